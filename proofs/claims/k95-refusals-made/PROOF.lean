import PyProof.Rows.All
import Wide.All
import OpenK.AllK
import Wide.FinOn
import PySem.Challenge.RW_leapfolk_k95_refusals_made
import HandS.ForMost
import HandS.ForExc
import HandS.Flow
import HandS.Deep
import HandS.Conv
import HandS.IsInst
import HandS.Wide
import HandS.TupAny
import HandS.TupMul
import HandS.Zip
import HandS.Rev
import HandS.SortInts
import HandS.Style
import KE.KStateDown
import Lean
import HandS.Head0
import HandS.Head1
import HandS.Head2
import HandS.HeadEnd
import HandS.HeadHook1
import HandS.HeadHook2
import HandS.Lambda
import HandS.EndTab
import HandS.ExcInit
import HandS.ExcField
import KE.SortData
import HandS.ExcIs
import HandS.SortKw
import KE.SortKeyHeap
import KE.KUnpackStar
import HandS.Defaults
import HandS.HeadWalk
import HandS.ExcOwn
import HandS.ExcValue
import HandS.RaiseMore
import KE.KExcIs
import HandS.CallSlots
import KE.KDictZip
import HandS.GenList
set_option Elab.async false
set_option linter.all false
set_option maxRecDepth 100000
/-! DLP: what the head looks at: the classes of exceptions, the built-in names, the Hook. -/
namespace DL
open PySem PySem.Spec PyProof.Rows L2
/-! ### the house's exceptions -/
def exNames : List Str := ["FolkError", "NoYard", "NoStanding", "NoLeap", "NoRow", "NoVector", "NoReading", "NoWishes", "NoCell", "NoTable", "NoNumber", "NoPerson", "TooMany"]
/-- whether an exception of the class k is one of the class c -/
def exSub (k c : Str) : Bool := k == c || c == ("FolkError" : Str) || c == ("ValueError" : Str)
/-- the built-in names that terms may use -/
def bNames : List Str := ["len", "abs", "int", "all", "any", "sum", "tuple", "list", "min", "max", "isinstance", "sorted", "bool", "str", "zip", "enumerate", "range", "reversed"]
/-- the field of an exception -/
def fieldOf (c : Str) : Str := if c == ("TooMany" : Str) then "most" else "person"
def ecB (K : PySem.W.Frag) (D : Addr) : Bool := decide (PySem.W.findIn K (.ref D) "__getattribute__" = some (some (.builtin "BaseException.__getattribute__"))) && (decide (PySem.W.findIn K (.ref D) "__getattr__" = some none) && (decide (PySem.W.subIn K (.ref D) (.type "BaseException") = some true) &&
  (PySem.W.hasDictIn K D && (decide (PySem.W.findIn K (.ref D) "__class__" = some (some (.builtin "object.__class__"))) && (decide (PySem.W.specialIn K (.builtin "object.__class__") "__get__" = some (some (.builtin "getset_descriptor.__get__"))) &&
  (decide (PySem.W.takesIn K (.builtin "object.__class__") = some true) && decide (PySem.W.mroIn K D (.type "object") = some true)))))))
def exB2 (K : PySem.W.Frag) (k : Str) (C : Addr) (c : Str) : Bool := match PySem.W.nsIn K mainGlobals c with
  | some none => true
  | some (some (.ref D)) => decide (PySem.W.kitOne K (.ref C) (.ref D) = some (exSub k c)) && decide (PySem.W.exmOne K (.ref C) (.ref D) = some (exSub k c))
  | _ => false
def exB1 (K : PySem.W.Frag) (k : Str) : Bool := match PySem.W.nsIn K mainGlobals k with
  | some none => true
  | some (some (.ref C)) => ecB K C && (decide (PySem.W.kitOne K (.ref C) (.type "ValueError") = some true) && (decide (PySem.W.kitOne K (.type "NoneType") (.ref C) = some false) && (decide (PySem.W.findIn K (.ref C) (fieldOf k) = some none) && exNames.all (exB2 K k C))))
  | _ => false
def exB (K : PySem.W.Frag) : Bool := exNames.all (exB1 K)
/-- what the head shows: the defs, the names, the exceptions -/
abbrev AlX : Type := He.AlD × Bool
def obsX (n : Nat) (fa : List He.Fa) (fn : List He.DefD) (g : Addr → Option Obj) : AlX := (He.obsDG n fa fn g, exB (He.frG g (He.asD g n)))
def hookX (n : Nat) (fa : List He.Fa) (fn : List He.DefD) : PySem.W.Hook where
  α := AlX
  obs s := obsX n fa fn s.heap.get?
  val _ := (He.valD fn, true)
  says _ h := ∃ K : PySem.W.Frag, K.In h ∧ He.SaysD fa fn K ∧ exB K = true
  of _ _ e := ⟨_, He.frG_in, congrArg (fun z : AlX => z.1) e, congrArg (fun z : AlX => z.2) e⟩
  keeps _ _ _ z k := z.elim fun K z => ⟨K, PySem.W.Frag.In.keeps z.1 k, z.2⟩
theorem obsX_eq {n : Nat} {fa : List He.Fa} {fn : List He.DefD} {g : Addr → Option Obj} {s : Shared} (h : ∀ a, g a = s.heap.get? a) : obsX n fa fn g = (hookX n fa fn).obs s := by
  have e : g = s.heap.get? := funext h
  rw [e]
  rfl
/-! ### the table of a def that makes lambdas -/
def isStrV : Value → Bool
  | .str _ _ => true
  | _ => false
def isIntV : Value → Bool
  | .int _ _ => true
  | _ => false
def isBoolV : Value → Bool
  | .bool _ => true
  | _ => false
theorem isStrV_e {v : Value} (h : isStrV v = true) : ∃ x t, v = .str x t := by cases v <;> first | exact ⟨_, _, rfl⟩ | cases h
theorem isIntV_e {v : Value} (h : isIntV v = true) : ∃ x t, v = .int x t := by cases v <;> first | exact ⟨_, _, rfl⟩ | cases h
theorem isBoolV_e {v : Value} (h : isBoolV v = true) : ∃ x, v = .bool x := by cases v <;> first | exact ⟨_, rfl⟩ | cases h
/-- an empty table -/
def emptyT (o : Obj) : Bool := (match o.cls with | .none => true | _ => false) && o.dict.isNone && (match o.data with | .fields a => a.isEmpty | _ => false) && o.slots.isEmpty
theorem emptyT_e {o : Obj} (h : emptyT o = true) : o = { cls := .none, data := .fields #[] } := by
  obtain ⟨c, d, dt, sl⟩ := o
  unfold emptyT at h
  simp only [Bool.and_eq_true] at h
  obtain ⟨⟨⟨h1, h2⟩, h3⟩, h4⟩ := h
  have e1 : c = .none := by cases c <;> first | rfl | cases h1
  have e2 : d = none := by cases d <;> first | rfl | cases h2
  have e3 : dt = .fields #[] := by
    cases dt <;> first | (cases h3; done) | skip
    rename_i a
    have : a = #[] := by simpa using h3
    rw [this]
  have e4 : sl = #[] := by simpa using h4
  subst e1 e2 e3 e4
  rfl
/-- the code object of a def and its table, empty as yet -/
def tabAt (K : PySem.W.Frag) (g : Addr → Option Obj) (x : Str) : Option (Addr × Addr) := match K.lookup (He.fAd K (x, none)) with
  | some o => match o.data with
    | .func fd => match fd.code with
      | .ref c => match g c with
        | some oc => match oc.cls, oc.data with
          | .type "code", .fields vs => match (vs[11]? : Option Value) with
            | some (.ref P) => match g P with
              | some ot => if (emptyT ot && isStrV (vs.getD 18 .none) && isIntV (vs.getD 7 .none) && isBoolV (vs.getD 9 .none) && isIntV (vs.getD 10 .none) && !(c == P) && (K.lookup P).isNone && !(P == mainGlobals)) = true then some (c, P) else none
              | none => none
            | _ => none
          | _, _ => none
        | none => none
      | _ => none
    | _ => none
  | none => none
structure TabOk (K : PySem.W.Frag) (h : Heap) (x : Str) (c P : Addr) : Prop where
  fn : ∀ fd oc od osl, K.lookup (He.fAd K (x, none)) = some ⟨oc, od, .func fd, osl⟩ → fd.code = .ref c
  hd : PySem.W.CodeHd h c P
  tb : h.get? P = some { cls := .none, data := .fields #[] }
  no : K.lookup P = none
  ng : P ≠ mainGlobals
theorem tabAt_ok {K : PySem.W.Frag} {h : Heap} {x : Str} {c P : Addr} (e : tabAt K h.get? x = some (c, P)) : TabOk K h x c P := by
  unfold tabAt at e
  split at e
  · rename_i o q
    split at e
    · rename_i fd qd
      split at e
      · rename_i c1 qc
        split at e
        · rename_i oc qo
          split at e
          · rename_i vs k1 k2
            split at e
            · rename_i P1 qP
              split at e
              · rename_i ot qt
                split at e
                · rename_i hb
                  have e := Option.some.inj e
                  injection e with e1 e2
                  subst e1 e2
                  simp only [Bool.and_eq_true, Bool.not_eq_true', beq_eq_false_iff_ne, ne_eq] at hb
                  obtain ⟨⟨⟨⟨⟨⟨⟨b1, b2⟩, b3⟩, b4⟩, b5⟩, b6⟩, b7⟩, b8⟩ := hb
                  obtain ⟨f, tf, e18⟩ := isStrV_e b2
                  obtain ⟨fl, tg, e7⟩ := isIntV_e b3
                  obtain ⟨inF, e9⟩ := isBoolV_e b4
                  obtain ⟨tx, tt, e10⟩ := isIntV_e b5
                  refine ⟨fun fd' oc' od' osl' z => ?_, ⟨oc, vs, f, tf, fl, tg, inF, tx, tt, qo, k1, k2, qP, ?_, e18, e7, e9, e10, b6⟩, by rw [qt, emptyT_e b1], by cases w : K.lookup P1 <;> first | rfl | (rw [w] at b7; cases b7), b8⟩
                  · rw [q] at z
                    have z := Option.some.inj z
                    subst z
                    have qd : Data.func fd' = .func fd := qd
                    injection qd with qd
                    rw [qd]; exact qc
                  · rw [Array.getD_eq_getD_getElem?, qP]; rfl
                · cases e
              · cases e
            · cases e
          · cases e
        · cases e
      · cases e
    · cases e
  · cases e
/-- .. the defs, the names, the exceptions, and the table of the def x -/
def obsT (n : Nat) (fa : List He.Fa) (fn : List He.DefD) (x : Str) (g : Addr → Option Obj) : AlX × Bool := (obsX n fa fn g, (tabAt (He.frG g (He.asD g n)) g x).isSome)
def hookT (n : Nat) (fa : List He.Fa) (fn : List He.DefD) (x : Str) : PySem.W.Hook where
  α := AlX × Bool
  obs s := obsT n fa fn x s.heap.get?
  val _ := ((He.valD fn, true), true)
  says _ h := ∃ K : PySem.W.Frag, K.In h ∧ He.SaysD fa fn K ∧ exB K = true ∧ ∃ c P, TabOk K h x c P
  of _ s e := by
    have e1 := congrArg (fun z : AlX × Bool => z.1) e
    have e2 : (tabAt (He.frG s.heap.get? (He.asD s.heap.get? n)) s.heap.get? x).isSome = true := congrArg (fun z : AlX × Bool => z.2) e
    obtain ⟨⟨c, P⟩, q⟩ := Option.isSome_iff_exists.mp e2
    exact ⟨_, He.frG_in, congrArg (fun z : AlX => z.1) e1, congrArg (fun z : AlX => z.2) e1, c, P, tabAt_ok q⟩
  keeps _ h h' z k := by
    obtain ⟨K, z1, z2, z3, c, P, t⟩ := z
    obtain ⟨o, vs, f, tf, fl, tg, inF, tx, tt, hc, r⟩ := t.hd
    exact ⟨K, PySem.W.Frag.In.keeps z1 k, z2, z3, c, P, t.fn, ⟨o, vs, f, tf, fl, tg, inF, tx, tt, k _ _ hc, r⟩, k _ _ t.tb, t.no, t.ng⟩
/-! ### an exception with a making of its own, by one field -/
/-- the class object at C -/
def oexB (K : PySem.W.Frag) (C : Addr) : Bool := match K.lookup C with
  | some ⟨.type t, _, .cls cd, sl⟩ => t == "type" && (match cd.mro, sl.toList with
    | .ref C' :: bm, [_, _, _, _, some (.builtin n), _] => C' == C && n == "ValueError.__new__" && !cd.hasDel && cd.hasDict && PySem.HandSPX.refsVE bm
    | _, _ => false)
  | _ => false
def fcB : Option PySem.W.CFound → Bool
  | some (.val (.builtin b)) => b == "ValueError.__init__"
  | _ => false
/-- the class x, which has a making of its own, and its base y -/
def e1B (K : PySem.W.Frag) (x y : Str) : Bool := match PySem.W.nsIn K mainGlobals x, PySem.W.nsIn K mainGlobals y with
  | some (some (.ref C)), some (some (.ref D)) => oexB K C && (decide (PySem.W.findIn K (.ref C) "__setattr__" = some (some (.builtin "object.__setattr__"))) && (decide (PySem.W.subIn K (.ref C) (.type "BaseException") = some true) && (decide (PySem.W.typeIn K (.ref C) = some (.type "type")) &&
    (PySem.W.keepIn K (.ref C) && (decide (PySem.W.findIn K (.ref C) "__init__" = some (some (.ref (He.fAd K (x, some "__init__"))))) && (decide (PySem.W.typeIn K (.ref (He.fAd K (x, some "__init__"))) = some (.type "function")) &&
    (decide (PySem.W.findIn K (.ref C) (fieldOf x) = some none) && (decide (PySem.W.specialIn K (.ref D) "__getattribute__" = some (some (.builtin "type.__getattribute__"))) && (PySem.W.readsIn K D (.type "type") && fcB (PySem.W.findCls K (.ref D) (.type "type") "__init__"))))))))))
  | _, _ => false
/-- what the names reach in n steps, what the class xe reaches in three, and the interpreter's own statics -/
def asE (g : Addr → Option Obj) (n : Nat) (xe : Str) : List Addr := cStatics :: (He.asD g n ++ He.growD g (He.growD g (He.growD g [He.ga (He.frG g (He.asD g n)) xe])))
/-- .. the defs, the names, the exceptions, the table of the def x, and the class xe over ye -/
def obsE (n : Nat) (fa : List He.Fa) (fn : List He.DefD) (x xe ye : Str) (g : Addr → Option Obj) : (AlX × Bool) × Bool :=
  (((He.obsD fa fn (He.frG g (asE g n xe)), exB (He.frG g (asE g n xe))), (tabAt (He.frG g (asE g n xe)) g x).isSome), e1B (He.frG g (asE g n xe)) xe ye)
def hookE (n : Nat) (fa : List He.Fa) (fn : List He.DefD) (x xe ye : Str) : PySem.W.Hook where
  α := (AlX × Bool) × Bool
  obs s := obsE n fa fn x xe ye s.heap.get?
  val _ := (((He.valD fn, true), true), true)
  says _ h := ∃ K : PySem.W.Frag, K.In h ∧ He.SaysD fa fn K ∧ exB K = true ∧ (∃ c P, TabOk K h x c P) ∧ e1B K xe ye = true
  of _ s e := by
    have e0 := congrArg (fun z : (AlX × Bool) × Bool => z.1.1) e
    have e2 : (tabAt (He.frG s.heap.get? (asE s.heap.get? n xe)) s.heap.get? x).isSome = true := congrArg (fun z : (AlX × Bool) × Bool => z.1.2) e
    have e3 : e1B (He.frG s.heap.get? (asE s.heap.get? n xe)) xe ye = true := congrArg (fun z : (AlX × Bool) × Bool => z.2) e
    obtain ⟨⟨c, P⟩, q⟩ := Option.isSome_iff_exists.mp e2
    exact ⟨_, He.frG_in, congrArg (fun z : AlX => z.1) e0, congrArg (fun z : AlX => z.2) e0, ⟨c, P, tabAt_ok q⟩, e3⟩
  keeps _ h h' z k := by
    obtain ⟨K, z1, z2, z3, ⟨c, P, t⟩, z4⟩ := z
    obtain ⟨o, vs, f, tf, fl, tg, inF, tx, tt, hc, r⟩ := t.hd
    exact ⟨K, PySem.W.Frag.In.keeps z1 k, z2, z3, ⟨c, P, t.fn, ⟨o, vs, f, tf, fl, tg, inF, tx, tt, k _ _ hc, r⟩, k _ _ t.tb, t.no, t.ng⟩, z4⟩
/-- .. of several classes over FolkError, without a table -/
def asF (g : Addr → Option Obj) (n : Nat) (xs : List Str) : List Addr := cStatics :: (He.asD g n ++ xs.flatMap fun xe => He.growD g (He.growD g (He.growD g [He.ga (He.frG g (He.asD g n)) xe])))
def obsF (n : Nat) (fa : List He.Fa) (fn : List He.DefD) (xs : List Str) (g : Addr → Option Obj) : AlX × Bool :=
  ((He.obsD fa fn (He.frG g (asF g n xs)), exB (He.frG g (asF g n xs))), xs.all fun x => e1B (He.frG g (asF g n xs)) x "FolkError")
def hookF (n : Nat) (fa : List He.Fa) (fn : List He.DefD) (xs : List Str) : PySem.W.Hook where
  α := AlX × Bool
  obs s := obsF n fa fn xs s.heap.get?
  val _ := ((He.valD fn, true), true)
  says _ h := ∃ K : PySem.W.Frag, K.In h ∧ He.SaysD fa fn K ∧ exB K = true ∧ (xs.all fun x => e1B K x "FolkError") = true
  of _ s e := by
    have e0 := congrArg (fun z : AlX × Bool => z.1) e
    have e3 : (xs.all fun x => e1B (He.frG s.heap.get? (asF s.heap.get? n xs)) x "FolkError") = true := congrArg (fun z : AlX × Bool => z.2) e
    exact ⟨_, He.frG_in, congrArg (fun z : AlX => z.1) e0, congrArg (fun z : AlX => z.2) e0, e3⟩
  keeps _ h h' z k := by
    obtain ⟨K, z1, z2, z3, z4⟩ := z
    exact ⟨K, PySem.W.Frag.In.keeps z1 k, z2, z3, z4⟩
/-- the statement j of the class st -/
def inCls (st : Stmt) (j : Nat) : Stmt := match st with
  | .ClassDef _ _ _ body _ _ _ _ _ _ _ => body.getD j (.Pass ⟨0, 0, 0, 0⟩)
  | s => s
end DL


set_option Elab.async false
set_option linter.all false
set_option maxRecDepth 100000
set_option maxHeartbeats 0
namespace K06
open PySem PySem.Spec PyProof.Rows L2 DL
def top (i : Nat) : Stmt := PySem.Challenge.pw_leapfolk_k95_refusals_made.main.body.getD i (.Pass ⟨0, 0, 0, 0⟩)
/-! the table -/
def rest_0 : List He.Fa := [.glo "_law_pile", .glo "_law_bare", .glo "_law_all", .glo "_law_mixed", .glo "_law_take", .glo "_law_kind", .glo "_law_great", .glo "is_whole", .glo "are_ways", .glo "are_persons", .glo "are_posts", .glo "yard_wrong", .glo "law", .int "MOST_PERSONS" 6, .int "MOST_WAYS" 3, .glo "FolkError", .exc "FolkError", .glo "NoCell", .exc "NoCell", .glo "NoLeap", .exc "NoLeap", .glo "NoNumber", .exc "NoNumber", .glo "NoReading", .exc "NoReading", .glo "NoRow", .exc "NoRow", .glo "NoStanding", .exc "NoStanding", .glo "NoTable"]
def rest_1 : List He.Fa := [.exc "NoTable", .glo "NoVector", .exc "NoVector", .glo "NoWishes", .exc "NoWishes", .glo "NoYard", .exc "NoYard", .glo "FolkError", .glo "NoCell", .glo "NoLeap", .glo "NoNumber", .glo "NoPerson", .glo "NoReading", .glo "NoRow", .glo "NoStanding", .glo "NoTable", .glo "NoVector", .glo "NoWishes", .glo "NoYard", .glo "TooMany", .free "ValueError"]
def rest : List He.Fa := rest_0 ++ rest_1
def fns_0 : List He.DefD := [⟨("_law_pile", none), "_law_pile", "_law_pile", defArgs (top 24), defBody (top 24), defScope (top 24), [], []⟩, ⟨("_law_bare", none), "_law_bare", "_law_bare", defArgs (top 28), defBody (top 28), defScope (top 28), [], []⟩, ⟨("_law_all", none), "_law_all", "_law_all", defArgs (top 29), defBody (top 29), defScope (top 29), [], []⟩, ⟨("_law_mixed", none), "_law_mixed", "_law_mixed", defArgs (top 23), defBody (top 23), defScope (top 23), [], []⟩, ⟨("_law_take", none), "_law_take", "_law_take", defArgs (top 25), defBody (top 25), defScope (top 25), [], []⟩, ⟨("_law_kind", none), "_law_kind", "_law_kind", defArgs (top 27), defBody (top 27), defScope (top 27), [], []⟩, ⟨("_law_great", none), "_law_great", "_law_great", defArgs (top 26), defBody (top 26), defScope (top 26), [], []⟩, ⟨("is_whole", none), "is_whole", "is_whole", defArgs (top 17), defBody (top 17), defScope (top 17), [], []⟩, ⟨("are_ways", none), "are_ways", "are_ways", defArgs (top 18), defBody (top 18), defScope (top 18), [], []⟩, ⟨("are_persons", none), "are_persons", "are_persons", defArgs (top 19), defBody (top 19), defScope (top 19), [], []⟩, ⟨("are_posts", none), "are_posts", "are_posts", defArgs (top 20), defBody (top 20), defScope (top 20), [], []⟩, ⟨("yard_wrong", none), "yard_wrong", "yard_wrong", defArgs (top 21), defBody (top 21), defScope (top 21), [], []⟩, ⟨("law", none), "law", "law", defArgs (top 30), defBody (top 30), defScope (top 30), [], []⟩, ⟨("NoPerson", some "__init__"), "__init__", "NoPerson.__init__", defArgs (inCls (top 12) 0), defBody (inCls (top 12) 0), defScope (inCls (top 12) 0), [], []⟩, ⟨("TooMany", some "__init__"), "__init__", "TooMany.__init__", defArgs (inCls (top 13) 0), defBody (inCls (top 13) 0), defScope (inCls (top 13) 0), [], []⟩]
def fns : List He.DefD := fns_0
abbrev fa : List He.Fa := bNames.map He.Fa.free ++ rest
abbrev Rw : PySem.W.OpenRow := PySem.W.OpenLaw.row PySem.Challenge.rw_leapfolk_k95_refusals_made
abbrev hk : PySem.W.Hook := hookF 2 fa fns ["NoPerson", "TooMany"]
def ob (s : PySem.W.SharedT) : AlX × Bool := obsF 2 fa fns ["NoPerson", "TooMany"] (HandSHeadRun.getT s)
theorem ob_eq (s : PySem.W.SharedT) : ob s = hk.obs s.abs := by
  show obsF 2 fa fns ["NoPerson", "TooMany"] (HandSHeadRun.getT s) = obsF 2 fa fns ["NoPerson", "TooMany"] s.abs.heap.get?
  rw [show HandSHeadRun.getT s = s.abs.heap.get? from funext (HandSHeadRun.getT_eq s)]
def names_0 : List Str := ["is_whole", "are_ways", "are_persons", "are_posts", "yard_wrong", "_law_mixed", "_law_pile", "_law_take", "_law_great", "_law_kind", "_law_bare", "_law_all", "FolkError", "NoYard", "NoStanding", "NoLeap", "NoRow", "NoVector", "NoReading", "NoWishes", "NoCell", "NoTable", "NoNumber", "NoPerson", "TooMany", "MOST_WAYS", "MOST_PERSONS"]
def names : List Str := names_0
open PySem.W PySem.Calls HandSHeadRun in
theorem run1 (w : World) (os : OsState) : (endF (stepQ (denQ tabQ) Rw.prog w) 20000 Rw.prog w os).map (fun s => looksF Rw.prog (boot_heap w.params) s.abs) = some true := by
  kernel_rfl
open PySem.W PySem.Calls HandSHeadRun in
theorem run2 (w : World) (os : OsState) : (endF (stepQ (denQ tabQ) Rw.prog w) 20000 Rw.prog w os).map (fun s => seenQ (PySem.W.view Rw.prog [30]) names (importedModules Rw.prog.main.body) (fun s => xlAt (PySem.W.view Rw.prog [30]) [] s && recOk Rw.toRowW.records s) s.abs) = some (openGood (PySem.W.view Rw.prog [30]) names) := by
  kernel_rfl
open PySem.W PySem.Calls HandSHeadRun in
theorem run3 (w : World) (os : OsState) : (endF (stepQ (denQ tabQ) Rw.prog w) 20000 Rw.prog w os).map ob = some (hk.val w) := by
  kernel_rfl
theorem map3 {α β γ δ : Type} {x : Option α} {f : α → β} {g : α → γ} {h : α → δ} {u : β} {v : γ} {z : δ} (a : x.map f = some u) (b : x.map g = some v) (c : x.map h = some z) : x.map (fun s => (f s, g s, h s)) = some (u, v, z) := by
  cases x with
  | none => cases a
  | some y =>
    have a := Option.some.inj a
    have b := Option.some.inj b
    have c := Option.some.inj c
    show some (f y, g y, h y) = _
    rw [a, b, c]
theorem run (w : World) : HandSHeadRun.RunEq Rw (PySem.W.view Rw.prog [30]) hk ob 20000 names w := fun os => map3 (run1 w os) (run2 w os) (run3 w os)

end K06


set_option Elab.async false
set_option linter.all false
set_option maxRecDepth 100000
/-! DL0: a small language of data (no heap): values, slots, terms, what they come to. -/
namespace DL
open PySem

abbrev D := PyData
/-- what an expression hands on: data, or a list of its own, just made -/
inductive DV where
  | d (x : D)
  | fr (xs : List D)
def DV.fz : DV → D
  | .d x => x
  | .fr xs => .list xs
/-- what stands in a slot -/
inductive Slot where
  | un
  | val (x : D)
  /-- a list of its own; p: the one that was handed in -/
  | own (p : Bool) (xs : List D)
abbrev Env := List Slot
/-- a list of one's own, looked at -/
def Slot.fz : Slot → Slot
  | .own _ xs => .val (.list xs)
  | s => s
inductive R (α : Type) where
  | ok (a : α) (e : Env)
  | exn (c : Str) (ps : List D) (e : Env)
  | bad
@[reducible] def R.bind {α β : Type} (r : R α) (f : α → Env → R β) : R β := match r with
  | .ok a e => f a e
  | .exn c ps e => .exn c ps e
  | .bad => .bad
/-- what a def's call comes to; o: the list that was handed in as its own -/
inductive FR where
  | ret (v : DV) (o : List D)
  | exn (c : Str) (ps : List D) (o : List D)
  | bad
structure Fn where
  name : Str
  own : Bool
  np : Nat
  run : List D → List D → FR

def lim : Nat := 1048576

def tru : D → Option Bool
  | .none => some false
  | .bool b => some b
  | .int i => some (i != 0)
  | .str x => if x.length ≤ lim then some ((x.length : Int) != 0) else none
  | .list xs => some (!xs.isEmpty)
  | .tuple xs => some (!xs.isEmpty)
  | .dict _ => none

inductive Bop where | add | sub | mul | fdiv | mod | pow
  deriving DecidableEq
inductive Cop where | eq | ne | lt | le | gt | ge | isn | notn | mem | nmem
  deriving DecidableEq
inductive Ty where | int | bool | str | tuple | list
  deriving DecidableEq
inductive Bi where | len | abs | int | all | any | sum | tuple | list | min | max | isi (t : Ty) | sorted | sortp | stri
  deriving DecidableEq

def rep {α : Type} (n : Nat) (xs : List α) : List α := (List.replicate n xs).flatten
def bin : Bop → D → D → Option DV
  | .add, .int i, .int j => some (.d (.int (i + j)))
  | .add, .tuple xs, .tuple ys => if xs.length + ys.length ≤ lim then some (.d (.tuple (xs ++ ys))) else none
  | .add, .list xs, .list ys => if xs.length + ys.length ≤ lim then some (.fr (xs ++ ys)) else none
  | .add, .str x, .str y => if x.length + y.length ≤ lim then some (.d (.str (x ++ y))) else none
  | .sub, .int i, .int j => some (.d (.int (i - j)))
  | .mul, .int i, .int j => if i.natAbs < 2 ^ 64 ∨ j.natAbs < 2 ^ 64 ∨ i.natAbs.log2 + j.natAbs.log2 < 1000000 then some (.d (.int (i * j))) else none
  | .mul, .tuple xs, .int k => if k = 1 then some (.d (.tuple xs)) else if 2 ≤ k ∧ k ≤ 1000 ∧ xs.length ≤ 1000 ∧ xs ≠ [] then some (.d (.tuple (rep k.toNat xs))) else if -1000000 ≤ k ∧ k ≤ 0 ∧ xs ≠ [] then some (.d (.tuple [])) else none
  | .mul, .list xs, .int k => if -1000000 ≤ k ∧ k ≤ 1000000 ∧ xs.length * k.toNat ≤ lim then some (.fr (rep k.toNat xs)) else none
  | .fdiv, .int i, .int j => if j ≠ 0 ∧ (j.natAbs.log2 < 9000 ∨ i.natAbs.log2 < 13400) then some (.d (.int (i.fdiv j))) else none
  | .mod, .int i, .int j => if j ≠ 0 then some (.d (.int (i.fmod j))) else none
  | .pow, .int i, .int j => if 0 ≤ j ∧ j ≤ 1000000 ∧ i.natAbs < 2 ^ 64 then some (.d (.int (i ^ j.toNat))) else none
  | _, _, _ => none

def lay (d : D) : Bool := SeqAt.shaped d
def flat : D → Bool
  | .none | .bool _ | .int _ | .str _ => true
  | _ => false
def cmp : Cop → D → D → Option Bool
  | .eq, a, b => if lay a && lay b then some (PyData.eqv a b) else none
  | .ne, a, b => if lay a && lay b then some (!PyData.eqv a b) else none
  | .lt, .int i, .int j => some (decide (i < j))
  | .le, .int i, .int j => some (decide (i ≤ j))
  | .gt, .int i, .int j => some (decide (j < i))
  | .ge, .int i, .int j => some (decide (j ≤ i))
  | .isn, a, .none => some (match a with | .none => true | _ => false)
  | .notn, a, .none => some (match a with | .none => false | _ => true)
  | .mem, a, .list xs => if lay a && lay (.list xs) then some (xs.any fun z => PyData.eqv z a) else none
  | .nmem, a, .list xs => if lay a && lay (.list xs) then some (!xs.any fun z => PyData.eqv z a) else none
  | .mem, a, .tuple xs => if flat a && xs.all flat then some (xs.any fun z => PyData.eqv z a) else if lay a && lay (.tuple xs) then some (xs.any fun z => PyData.eqv z a) else none
  | .nmem, a, .tuple xs => if flat a && xs.all flat then some (!xs.any fun z => PyData.eqv z a) else if lay a && lay (.tuple xs) then some (!xs.any fun z => PyData.eqv z a) else none
  | _, _, _ => none

def tyIs : Ty → D → Bool
  | .int, .int _ => true
  | .int, .bool _ => true
  | .bool, .bool _ => true
  | .str, .str _ => true
  | .tuple, .tuple _ => true
  | .list, .list _ => true
  | _, _ => false

/-- the ints of data, if they are all ints -/
def ints? : List D → Option (List Int)
  | [] => some []
  | .int i :: r => (ints? r).map (i :: ·)
  | _ :: _ => none
/-- the truths of plain data -/
def truF : D → Option Bool
  | .none => some false
  | .bool b => some b
  | .int i => some (i != 0)
  | _ => none
def trus? : List D → Option (List Bool)
  | [] => some []
  | d :: r => match truF d, trus? r with
    | some b, some bs => some (b :: bs)
    | _, _ => none
def maxI : List Int → Int
  | [] => 0
  | [x] => x
  | x :: y :: r => let m := maxI (y :: r); if m < x then x else m
def minI : List Int → Int
  | [] => 0
  | [x] => x
  | x :: y :: r => let m := minI (y :: r); if x < m then x else m
def insI (x : Int) : List Int → List Int
  | [] => [x]
  | y :: r => if x ≤ y then x :: y :: r else y :: insI x r
def srtI : List Int → List Int
  | [] => []
  | x :: r => insI x (srtI r)

/-- a tuple of ints, not empty -/
abbrev Row := Int × List Int
def Row.d (r : Row) : D := .tuple ((r.1 :: r.2).map PyData.int)
def rowLe (a b : Row) : Bool := decide (a.1 :: a.2 ≤ b.1 :: b.2)
def rowsD : List D → Option (List Row)
  | [] => some []
  | .tuple xs :: r => match ints? xs, rowsD r with
    | some (n :: ns), some rs => some ((n, ns) :: rs)
    | _, _ => none
  | _ :: _ => none
def sortRows (rs : List Row) : List D := (rs.mergeSort rowLe).map Row.d

def bi : Bi → List D → Option DV
  | .len, [.list xs] => some (.d (.int xs.length))
  | .len, [.tuple xs] => some (.d (.int xs.length))
  | .len, [.dict [(.none, .list xs)]] => some (.d (.int xs.length))
  | .len, [.str x] => if x.length ≤ lim then some (.d (.int x.length)) else none
  | .abs, [.int i] => some (.d (.int (if i < 0 then -i else i)))
  | .int, [.int i] => some (.d (.int i))
  | .int, [.bool b] => some (.d (.int (if b then 1 else 0)))
  | .all, [.list xs] => (trus? xs).map fun bs => .d (.bool (bs.all id))
  | .any, [.list xs] => (trus? xs).map fun bs => .d (.bool (bs.any id))
  | .all, [.tuple xs] => (trus? xs).map fun bs => .d (.bool (bs.all id))
  | .any, [.tuple xs] => (trus? xs).map fun bs => .d (.bool (bs.any id))
  | .sum, [.list xs] => (ints? xs).map fun ns => .d (.int ns.sum)
  | .sum, [.tuple xs] => (ints? xs).map fun ns => .d (.int ns.sum)
  | .tuple, [.list xs] => some (.d (.tuple xs))
  | .tuple, [.tuple xs] => some (.d (.tuple xs))
  | .list, [.list xs] => some (.fr xs)
  | .list, [.tuple xs] => some (.fr xs)
  | .min, [.int i, .int j] => some (.d (.int (if j < i then j else i)))
  | .max, [.int i, .int j] => some (.d (.int (if j > i then j else i)))
  | .max, [.list xs] => match ints? xs with
    | some (x :: r) => some (.d (.int (maxI (x :: r))))
    | _ => none
  | .min, [.list xs] => match ints? xs with
    | some (x :: r) => some (.d (.int (minI (x :: r))))
    | _ => none
  | .max, [.tuple xs] => match ints? xs with
    | some (x :: r) => some (.d (.int (maxI (x :: r))))
    | _ => none
  | .min, [.tuple xs] => match ints? xs with
    | some (x :: r) => some (.d (.int (minI (x :: r))))
    | _ => none
  | .isi _, [.dict []] => some (.d (.bool false))
  | .isi _, [.dict (_ :: _)] => none
  | .isi t, [a] => some (.d (.bool (tyIs t a)))
  | .sorted, [.list xs] => (ints? xs).map fun ns => .fr ((srtI ns).map .int)
  | .sortp, [.list xs] => (rowsD xs).map fun rs => .fr (sortRows rs)
  | .stri, [.int i] => if i.natAbs.log2 < 1920 then some (.d (.str (Str.ofString (toString i)))) else none
  | _, _ => none

def ix : D → D → Option D
  | .list xs, .int i => L2.atI xs i
  | .tuple xs, .int i => L2.atI xs i
  | .dict [(.none, .list xs)], .int i => L2.atI xs i
  | _, _ => none
def cut {α : Type} (xs : List α) (lo hi : Option Int) : List α :=
  (xs.drop (HT.sIx xs.length 0 lo)).take (HT.sIx xs.length xs.length hi - HT.sIx xs.length 0 lo)
def sl (a : D) (lo hi : Option Int) : Option DV := match a with
  | .list xs => some (.fr (cut xs lo hi))
  | .tuple xs => some (.d (.tuple (cut xs lo hi)))
  | _ => none
def revSl : D → Option DV
  | .list xs => some (.fr xs.reverse)
  | .tuple xs => some (.d (.tuple xs.reverse))
  | _ => none
def items? : D → Option (List D)
  | .list xs => some xs
  | .tuple xs => some xs
  | _ => none

/-- a target -/
inductive Tg where
  | nm (i : Nat)
  | tp (ts : List Tg)
mutual
def bindT : Tg → D → Env → Option Env
  | .nm i, x, e => some (e.set i (.val x))
  | .tp ts, .tuple xs, e => bindTs ts xs e
  | .tp ts, .list xs, e => bindTs ts xs e
  | .tp _, _, _ => none
def bindTs : List Tg → List D → Env → Option Env
  | [], [], e => some e
  | t :: ts, x :: xs, e => match bindT t x e with
    | some e1 => bindTs ts xs e1
    | none => none
  | _, _, _ => none
end

/-- xs.pop(k) -/
def popD (xs : List D) : D → Option (D × List D)
  | .int i => if 0 ≤ i ∧ i ≤ 1000000000 then (match xs[i.toNat]? with
    | some x => some (x, xs.eraseIdx i.toNat)
    | none => none) else none
  | _ => none
/-- an exception as data -/
def exD (c : Str) (ps : List D) : D := .dict [(.str c, .tuple ps)]
def isX (c : Str) : D → Option Bool
  | .dict [(.str k, .tuple [])] => if exNames.contains k && (exNames.contains c || c == ("ValueError" : Str)) then some (exSub k c) else none
  | .dict [(.str k, .tuple [_])] => if exNames.contains k && (exNames.contains c || c == ("ValueError" : Str)) then some (exSub k c) else none
  | .none => if exNames.contains c || c == ("ValueError" : Str) then some false else none
  | _ => none
/-- an exception's field -/
def fldD (f : Str) : D → Option D
  | .dict [(.str k, .tuple [p])] => if exNames.contains k && fieldOf k == f then some p else none
  | _ => none

/-- the order of (n == 0, abs(n)) -/
def keyLe (a b : Int) : Bool := decide ((if a = 0 then (1 : Int) else 0) < (if b = 0 then 1 else 0) ∨ ((if a = 0 then (1 : Int) else 0) = (if b = 0 then 1 else 0) ∧ (if a < 0 then -a else a) ≤ (if b < 0 then -b else b)))
def keysD (w : Int) : List D → Option (List Int)
  | [] => some []
  | .tuple its :: r => match L2.atI its w with
    | some (.int n) => (keysD w r).map (n :: ·)
    | _ => none
  | _ :: _ => none
def sortD (ds : List D) (ns : List Int) : List D := ((ds.zip ns).mergeSort fun p q => keyLe p.2 q.2).map (·.1)
def sortK (w : Int) : D → Option DV
  | .list ds => (keysD w ds).map fun ns => .fr (sortD ds ns)
  | _ => none

mutual
inductive Ex where
  | lit (c : D)
  | v (i : Nat)
  | frz (i : Nat)
  | tk (i : Nat)
  | oix (i : Nat) (b : Ex)
  /-- x.pop(b), x a list of one's own -/
  | popi (i : Nat) (b : Ex)
  /-- {} -/
  | dic0
  | oadd (a : Ex) (i : Nat)
  | olen (i : Nat)
  /-- a look at lists of one's own: the answer is flat -/
  | peek (a : Ex)
  /-- list(x), x a list of one's own -/
  | olst (i : Nat)
  /-- sorted(a, key=lambda row: (row[way] == 0, abs(row[way]))) -/
  | skey (a : Ex) (i : Nat)
  | gl (k : Nat)
  | bin (o : Bop) (a b : Ex)
  | neg (a : Ex)
  | no (a : Ex)
  | cmp (o : Cop) (a b : Ex)
  | chn (o p : Cop) (a b c : Ex)
  | and (a b : Ex)
  | or (a b : Ex)
  | ife (c a b : Ex)
  | tup (es : Exs)
  | lst (es : Exs)
  | ix (a b : Ex)
  | sl (a : Ex) (lo hi : Op)
  | rsl (a : Ex)
  | isx (a : Ex) (c : Str)
  /-- an exception that is made and kept: without a field, with one (kw: handed in by its name); its field -/
  | mkx (c : Str) (es : Exs)
  | mk1 (c : Str) (kw : Bool) (a : Ex)
  | fld (a : Ex) (f : Str)
  | bi (f : Bi) (es : Exs)
  | lit_ (it : It)
  | call (k : Nat) (es : Exs)
  | callo (k i : Nat) (es : Exs)
  /-- [f, g][x](..), x: slot i -/
  | call2 (i k1 k2 : Nat) (es : Exs)
  | callk (k : Nat) (es : Exs) (a : Ex)
  | comp (e : Ex) (vs : List Nat) (g : Tg) (it : It) (c : Op)
inductive Exs where
  | nil
  | cons (e : Ex) (es : Exs)
inductive Op where
  | non
  | som (e : Ex)
inductive It where
  | seq (e : Ex)
  | zip (strict : Bool) (es : Exs)
  | enum (it : It)
  | rng (es : Exs)
  | rev (e : Ex)
end

/-- zip of lists of items -/
def zipAll : List (List D) → List D
  | [xs, ys] => (xs.zip ys).map fun p => .tuple [p.1, p.2]
  | [xs, ys, zs] => (xs.zip (ys.zip zs)).map fun p => .tuple [p.1, p.2.1, p.2.2]
  | _ => []
def zipD (strict : Bool) (as : List D) : Option (List D) := match as.map items? with
  | [some xs, some ys] => if strict = true → xs.length = ys.length then some (zipAll [xs, ys]) else none
  | [some xs, some ys, some zs] => if strict = true → (xs.length = ys.length ∧ xs.length = zs.length) then some (zipAll [xs, ys, zs]) else none
  | _ => none
def enumD : Nat → List D → List D
  | _, [] => []
  | i, x :: r => .tuple [.int i, x] :: enumD (i + 1) r
def rngI (a : Int) : Nat → List D
  | 0 => []
  | n + 1 => .int a :: rngI (a + 1) n
def big (i : Int) : Bool := decide (-1000000000 ≤ i) && decide (i ≤ 1000000000)
def rngD : List D → Option (List D)
  | [.int j] => if big j then some (rngI 0 j.toNat) else none
  | [.int i, .int j] => if big i && big j then some (rngI i (j - i).toNat) else none
  | _ => none

/-- a comprehension's turns: f an item's value, or none where its test says no -/
def compGo (f : D → Env → R (Option D)) : List D → Env → R (List D)
  | [], e => .ok [] e
  | x :: xs, e => match f x e with
    | .ok o e1 => match compGo f xs e1 with
      | .ok ys e2 => .ok (match o with | some y => y :: ys | none => ys) e2
      | _ => .bad
    | _ => .bad
def wipeE (e : Env) : List Nat → Env
  | [] => e
  | v :: vs => (wipeE e vs).set v .un
/-- no slot of these holds a list of its own -/
def plainAt (e : Env) (vs : List Nat) : Bool := vs.all fun i => match e[i]? with
  | some (.own _ _) => false
  | _ => true
/-- the slots of these put back as they were -/
def putBack (e0 e : Env) : List Nat → Env
  | [] => e
  | v :: vs => match e0[v]? with
    | some s => (putBack e0 e vs).set v s
    | none => putBack e0 e vs

def toR {α : Type} (o : Option α) (e : Env) : R α := match o with
  | some a => .ok a e
  | none => .bad
def dvOk : DV → Bool
  | .d (.tuple xs) => decide (xs.length ≤ lim)
  | .d _ => true
  | .fr xs => decide (xs.length ≤ lim)

section
variable (G : List D) (Γ : List Fn)
mutual
def evE : Ex → Env → R DV
  | .lit c, e => .ok (.d c) e
  | .v i, e => match e[i]? with
    | some (.val x) => .ok (.d x) e
    | _ => .bad
  | .frz i, e => match e[i]? with
    | some (.own false xs) => .ok (.d (.list xs)) (e.set i (.val (.list xs)))
    | _ => .bad
  | .tk i, e => match e[i]? with
    | some (.own false xs) => .ok (.fr xs) (e.set i .un)
    | _ => .bad
  | .oix i b, e => match e[i]? with
    | some (.own _ _) => (evE b e).bind fun k e1 => match e1[i]? with
      | some (.own _ xs) => toR ((ix (.list xs) k.fz).map .d) e1
      | _ => .bad
    | _ => .bad
  | .popi i b, e => match e[i]? with
    | some (.own _ _) => (evE b e).bind fun k e1 => match e1[i]? with
      | some (.own p xs) => match popD xs k.fz with
        | some (x, ys) => .ok (.d x) (e1.set i (.own p ys))
        | none => .bad
      | _ => .bad
    | _ => .bad
  | .dic0, e => .ok (.d (.dict [])) e
  | .oadd a i, e => (evE a e).bind fun x e1 => match e1[i]? with
    | some (.own _ ys) => toR (bin .add x.fz (.list ys)) e1
    | _ => .bad
  | .olen i, e => match e[i]? with
    | some (.own _ xs) => .ok (.d (.int xs.length)) e
    | _ => .bad
  | .skey a i, e => (evE a e).bind fun x e1 => match e1[i]? with
    | some (.val (.int w)) => toR (sortK w x.fz) e1
    | _ => .bad
  | .peek a, e => match evE a (e.map Slot.fz) with
    | .ok x _ => if flat x.fz then .ok (.d x.fz) e else .bad
    | .exn c [] _ => .exn c [] e
    | _ => .bad
  | .olst i, e => match e[i]? with
    | some (.own _ xs) => .ok (.fr xs) e
    | _ => .bad
  | .gl k, e => match G[k]? with
    | some x => .ok (.d x) e
    | none => .bad
  | .bin o a b, e => (evE a e).bind fun x e1 => (evE b e1).bind fun y e2 => toR (bin o x.fz y.fz) e2
  | .neg a, e => (evE a e).bind fun x e1 => match x.fz with
    | .int i => .ok (.d (.int (-i))) e1
    | _ => .bad
  | .no a, e => (evE a e).bind fun x e1 => match tru x.fz with
    | some b => .ok (.d (.bool (!b))) e1
    | none => .bad
  | .cmp o a b, e => (evE a e).bind fun x e1 => (evE b e1).bind fun y e2 => toR ((cmp o x.fz y.fz).map fun b => .d (.bool b)) e2
  | .chn o p a b c, e => (evE a e).bind fun x e1 => (evE b e1).bind fun y e2 => match cmp o x.fz y.fz with
    | some true => (evE c e2).bind fun z e3 => toR ((cmp p y.fz z.fz).map fun b => .d (.bool b)) e3
    | some false => .ok (.d (.bool false)) e2
    | none => .bad
  | .and a b, e => (evE a e).bind fun x e1 => match tru x.fz with
    | some true => (evE b e1).bind fun y e2 => .ok (.d y.fz) e2
    | some false => .ok (.d x.fz) e1
    | none => .bad
  | .or a b, e => (evE a e).bind fun x e1 => match tru x.fz with
    | some false => (evE b e1).bind fun y e2 => .ok (.d y.fz) e2
    | some true => .ok (.d x.fz) e1
    | none => .bad
  | .ife c a b, e => (evE c e).bind fun x e1 => match tru x.fz with
    | some true => (evE a e1).bind fun y e2 => .ok (.d y.fz) e2
    | some false => (evE b e1).bind fun y e2 => .ok (.d y.fz) e2
    | none => .bad
  | .tup es, e => (evEs es e).bind fun xs e1 => if xs.length ≤ lim then .ok (.d (.tuple xs)) e1 else .bad
  | .lst es, e => (evEs es e).bind fun xs e1 => if xs.length ≤ lim then .ok (.fr xs) e1 else .bad
  | .ix a b, e => (evE a e).bind fun x e1 => (evE b e1).bind fun y e2 => toR ((ix x.fz y.fz).map .d) e2
  | .sl a lo hi, e => (evE a e).bind fun x e1 => (evOp lo e1).bind fun i e2 => (evOp hi e2).bind fun j e3 => toR (sl x.fz i j) e3
  | .rsl a, e => (evE a e).bind fun x e1 => toR (revSl x.fz) e1
  | .isx a c, e => (evE a e).bind fun x e1 => toR ((isX c x.fz).map fun b => .d (.bool b)) e1
  | .mkx c es, e => (evEs es e).bind fun xs e1 => .ok (.d (exD c [])) e1
  | .mk1 c _ a, e => (evE a e).bind fun x e1 => .ok (.d (exD c [x.fz])) e1
  | .fld a f, e => (evE a e).bind fun x e1 => toR ((fldD f x.fz).map .d) e1
  | .bi f es, e => (evEs es e).bind fun xs e1 => toR (bi f xs) e1
  | .lit_ it, e => (evIt it e).bind fun xs e1 => if xs.length ≤ lim then .ok (.fr xs) e1 else .bad
  | .call k es, e => (evEs es e).bind fun xs e1 => match Γ[k]? with
    | some f => if f.own = false ∧ f.np = xs.length then (match f.run [] xs with
      | .ret v _ => .ok v e1
      | .exn c ps _ => .exn c ps e1
      | .bad => .bad) else .bad
    | none => .bad
  | .call2 i k1 k2 es, e => match e[i]? with
    | some (.val (.int w)) => if w = 0 ∨ w = 1 then (evEs es e).bind fun xs e1 => match Γ[if w = 0 then k1 else k2]? with
      | some f => if f.own = false ∧ f.np = xs.length then (match f.run [] xs with
        | .ret v _ => .ok v e1
        | .exn c ps _ => .exn c ps e1
        | .bad => .bad) else .bad
      | none => .bad else .bad
    | _ => .bad
  | .callk k es a, e => (evEs es e).bind fun xs e1 => (evE a e1).bind fun y e2 => match Γ[k]? with
    | some f => if f.own = false ∧ f.np = xs.length + 1 then (match f.run [] (xs ++ [y.fz]) with
      | .ret v _ => .ok v e2
      | .exn c ps _ => .exn c ps e2
      | .bad => .bad) else .bad
    | none => .bad
  | .callo k i es, e => match e[i]? with
    | some (.own _ _) => (evEs es e).bind fun xs e1 => match Γ[k]?, e1[i]? with
      | some f, some (.own p o) => if f.own = true ∧ f.np = xs.length + 1 then (match f.run o xs with
        | .ret v o' => .ok v (e1.set i (.own p o'))
        | .exn c ps o' => .exn c ps (e1.set i (.own p o'))
        | .bad => .bad) else .bad
      | _, _ => .bad
    | _ => .bad
  | .comp x vs g it c, e => (evIt it e).bind fun xs e1 => if plainAt e1 vs then
      (match compGo (fun z e2 => match bindT g z (wipeE e2 vs) with
        | none => .bad
        | some e3 => (evOpT c e3).bind fun b e4 => if b then (evE x e4).bind fun y e5 => .ok (some y.fz) e5 else .ok none e4) xs (wipeE e1 vs) with
      | .ok ys e6 => if ys.length ≤ lim then .ok (.fr ys) (putBack e1 e6 vs) else .bad
      | _ => .bad) else .bad
def evEs : Exs → Env → R (List D)
  | .nil, e => .ok [] e
  | .cons a as, e => (evE a e).bind fun x e1 => (evEs as e1).bind fun xs e2 => .ok (x.fz :: xs) e2
/-- a slice's bound -/
def evOp : Op → Env → R (Option Int)
  | .non, e => .ok none e
  | .som a, e => (evE a e).bind fun x e1 => match x.fz with
    | .int i => .ok (some i) e1
    | _ => .bad
/-- a comprehension's test -/
def evOpT : Op → Env → R Bool
  | .non, e => .ok true e
  | .som a, e => (evE a e).bind fun x e1 => toR (tru x.fz) e1
def evIt : It → Env → R (List D)
  | .seq a, e => (evE a e).bind fun x e1 => toR (items? x.fz) e1
  | .zip s es, e => (evEs es e).bind fun xs e1 => toR (zipD s xs) e1
  | .enum it, e => (evIt it e).bind fun xs e1 => .ok (enumD 0 xs) e1
  | .rng es, e => (evEs es e).bind fun xs e1 => toR (rngD xs) e1
  | .rev a, e => (evE a e).bind fun x e1 => toR ((items? x.fz).map List.reverse) e1
end
end

/-- what a statement comes to -/
inductive RS where
  | nx (e : Env)
  | bk (e : Env)
  | ct (e : Env)
  | rt (v : DV) (e : Env)
  | exn (c : Str) (ps : List D) (e : Env)
  | bad
@[reducible] def R.thn {α : Type} (r : R α) (f : α → Env → RS) : RS := match r with
  | .ok a e => f a e
  | .exn c ps e => .exn c ps e
  | .bad => .bad
@[reducible] def RS.thn (r : RS) (f : Env → RS) : RS := match r with
  | .nx e => f e
  | r => r

mutual
inductive Sx where
  | asg (t : Tg) (e : Ex)
  /-- x, *y = e -/
  | spl (i j : Nat) (e : Ex)
  | own (i : Nat) (e : Ex)
  | seti (i : Nat) (k e : Ex)
  | app (i : Nat) (e : Ex)
  | aug (i : Nat) (o : Bop) (e : Ex)
  | ife (c : Ex) (a b : Sxs)
  | for_ (g : Tg) (it : It) (b : Sxs)
  | whil (fuel : Env → Nat) (c : Ex) (b : Sxs)
  | ret (e : Ex)
  | retn
  | rai (c : Str) (es : Exs)
  | ex (e : Ex)
  | pass
  | brk
  | cnt
  /-- try: b; except c as slot i: slot j = slot i -/
  | tryc (b : Sxs) (c : Str) (i j : Nat)
  /-- try: b; except c as slot i: slot j = slot i; slot k = its field; other clauses aren't reached -/
  | tryd (b : Sxs) (c : Str) (i j k : Nat)
  /-- a statement that isn't reached -/
  | unk
inductive Sxs where
  | nil
  | cons (s : Sx) (ss : Sxs)
end

/-- the first item and the others -/
def splD (i j : Nat) (e1 : Env) : D → RS
  | .list (d :: ds) => .nx ((e1.set i (.val d)).set j (.val (.list ds)))
  | _ => .bad
/-- what an exception comes to at a clause «except c as i: j = i» -/
def catR (c : Str) (i j : Nat) (k : Str) (ps : List D) (e1 : Env) : RS := if exNames.contains k then (if exSub k c then (match ps with
  | [] => if i < e1.length then .nx (((e1.set i (.val (exD k []))).set j (.val (exD k []))).set i .un) else .bad
  | _ => .bad) else .exn k ps e1) else .bad
/-- .. at a clause «except c as i: j = i; k = i.field» -/
def catD (c : Str) (i j k : Nat) (x : Str) (ps : List D) (e1 : Env) : RS := if x = c then (match ps with
  | [p] => if i < e1.length ∧ j ≠ i ∧ k ≠ i then .nx ((((e1.set i (.val (exD c [p]))).set j (.val (exD c [p]))).set k (.val p)).set i .un) else .bad
  | _ => .bad) else .bad
def forGo (g : Tg) (f : Env → RS) : List D → Env → RS
  | [], e => .nx e
  | x :: xs, e => match bindT g x e with
    | none => .bad
    | some e1 => match f e1 with
      | .nx e2 => forGo g f xs e2
      | .ct e2 => forGo g f xs e2
      | .bk e2 => .nx e2
      | .rt v e2 => .rt v e2
      | .exn c ps e2 => .exn c ps e2
      | .bad => .bad
def whileGo (c : Env → R Bool) (f : Env → RS) : Nat → Env → RS
  | 0, _ => .bad
  | n + 1, e => (c e).thn fun b e1 => if b then (match f e1 with
      | .nx e2 => whileGo c f n e2
      | .ct e2 => whileGo c f n e2
      | .bk e2 => .nx e2
      | .rt v e2 => .rt v e2
      | .exn c ps e2 => .exn c ps e2
      | .bad => .bad) else .nx e1

section
variable (G : List D) (Γ : List Fn)
def evT (a : Ex) (e : Env) : R Bool := (evE G Γ a e).bind fun x e1 => toR (tru x.fz) e1
mutual
def evS : Sx → Env → RS
  | .asg t a, e => (evE G Γ a e).thn fun x e1 => match bindT t x.fz e1 with
    | some e2 => .nx e2
    | none => .bad
  | .spl i j a, e => (evE G Γ a e).thn fun x e1 => splD i j e1 x.fz
  | .own i a, e => (evE G Γ a e).thn fun x e1 => match x with
    | .fr xs => .nx (e1.set i (.own false xs))
    | .d _ => .bad
  | .seti i k a, e => (evE G Γ a e).thn fun x e1 => match e1[i]? with
    | some (.own _ _) => (evE G Γ k e1).thn fun j e2 => match e2[i]?, j.fz with
      | some (.own p xs), .int n => match L2.ixN xs.length n with
        | some m => .nx (e2.set i (.own p (xs.set m x.fz)))
        | none => .bad
      | _, _ => .bad
    | _ => .bad
  | .app i a, e => match e[i]? with
    | some (.own _ _) => (evE G Γ a e).thn fun x e1 => match e1[i]? with
      | some (.own p xs) => if xs.length < lim then .nx (e1.set i (.own p (xs ++ [x.fz]))) else .bad
      | _ => .bad
    | _ => .bad
  | .aug i o a, e => match e[i]? with
    | some (.val y) => (evE G Γ a e).thn fun x e1 => match bin o y x.fz with
      | some (.d z) => .nx (e1.set i (.val z))
      | _ => .bad
    | _ => .bad
  | .ife c a b, e => (evT G Γ c e).thn fun x e1 => if x then evSs a e1 else evSs b e1
  | .for_ g it b, e => (evIt G Γ it e).thn fun xs e1 => forGo g (evSs b) xs e1
  | .whil n c b, e => whileGo (evT G Γ c) (evSs b) (n e) e
  | .ret a, e => (evE G Γ a e).thn fun x e1 => .rt x e1
  | .retn, e => .rt (.d .none) e
  | .rai c es, e => (evEs G Γ es e).thn fun xs e1 => .exn c xs e1
  | .ex a, e => (evE G Γ a e).thn fun _ e1 => .nx e1
  | .pass, e => .nx e
  | .brk, e => .bk e
  | .cnt, e => .ct e
  | .tryc b c i j, e => match evSs b e with
    | .exn k ps e1 => catR c i j k ps e1
    | r => r
  | .tryd b c i j k, e => match evSs b e with
    | .exn x ps e1 => catD c i j k x ps e1
    | r => r
  | .unk, _ => .bad
def evSs : Sxs → Env → RS
  | .nil, e => .nx e
  | .cons s ss, e => match evS s e with
    | .nx e1 => evSs ss e1
    | r => r
end
/-- a def: its slots, its parameters first -/
def evF (own : Bool) (n : Nat) (b : Sxs) (o : List D) (xs : List D) : FR :=
  let ps : Env := (if own then [Slot.own true o] else []) ++ xs.map Slot.val
  let fin (e : Env) (f : List D → FR) : FR := if own then (match (e[0]? : Option Slot) with | some (Slot.own true o') => f o' | _ => FR.bad) else f []
  match evSs G Γ b (ps ++ List.replicate (n - ps.length) .un) with
  | .nx e => fin e (.ret (.d .none))
  | .rt v e => fin e (.ret v)
  | .exn c ps e => fin e (.exn c ps)
  | _ => .bad
end
end DL


set_option Elab.async false
set_option linter.all false
set_option maxRecDepth 100000
set_option maxHeartbeats 1000000
/-! DL1: what data stands at a value (Den), a frame's slots (Rel), what a term's evaluation promises (tE). -/
namespace DL
open PySem PySem.Spec PyProof.Rows L2

/-- how exceptions are held; the tables of code objects that may grow, by their names -/
structure XO where
  x : Str → Option Addr → HO → Prop
  T : List (Addr × Str)
instance : CoeFun XO fun _ => Str → Option Addr → HO → Prop := ⟨XO.x⟩
mutual
/-- data at a value, over a heap -/
inductive Den (K : PySem.W.Frag) (xo : XO) (H : Hp) : V → D → Prop
  | non : Den K xo H .non .none
  | bl (b : Bool) : Den K xo H (.bl b) (.bool b)
  | int (i : Int) : Den K xo H (.int i) (.int i)
  | str (x : Str) : Den K xo H (.str x) (.str x)
  /-- the script itself: read, never written -/
  | scr {a : Addr} {xs : List V} {ds : List D} : SqL K H a xs → DenAll K xo H xs ds → Den K xo H (.ref a) (.dict [(.none, .list ds)])
  | lst {a : Addr} {xs : List V} {ds : List D} : H a = some (.lst xs) → DenAll K xo H xs ds → Den K xo H (.ref a) (.list ds)
  | tup {a : Addr} {xs : List V} {ds : List D} : SqT K H a xs → DenAll K xo H xs ds → Den K xo H (.ref a) (.tuple ds)
  | exc0 {a : Addr} {o : HO} {c : Str} : H a = some o → xo c none o → Den K xo H (.ref a) (.dict [(.str c, .tuple [])])
  | exc1 {a dx : Addr} {o : HO} {c : Str} {v : V} {p : D} : H a = some o → xo c (some dx) o → H dx = some (.xd [(fieldOf c, v)]) → Den K xo H v p → Den K xo H (.ref a) (.dict [(.str c, .tuple [p])])
  | dic0 {a : Addr} : H a = some (.dK []) → Den K xo H (.ref a) (.dict [])
inductive DenAll (K : PySem.W.Frag) (xo : XO) (H : Hp) : List V → List D → Prop
  | nil : DenAll K xo H [] []
  | cons {v : V} {vs : List V} {d : D} {ds : List D} : Den K xo H v d → DenAll K xo H vs ds → DenAll K xo H (v :: vs) (d :: ds)
end

section
variable {K : PySem.W.Frag} {xo : XO} {H H' F F' F1 : Hp}
theorem rd_mono {a : Addr} {u : HO} (s : Same F F') (h : Rd F a u) : Rd F' a u := by
  rcases h with h | ⟨o, h⟩
  · exact .inl (s _ _ h)
  · exact .inr ⟨o, s _ _ h⟩
theorem sqt_mono {a : Addr} {xs : List V} (s : Same F F') (h : SqT K F a xs) : SqT K F' a xs := by
  rcases h with h | h
  · exact .inl (rd_mono s h)
  · exact .inr h
mutual
theorem Den.mono (s : Same F F') : ∀ {v : V} {d : D}, Den K xo F v d → Den K xo F' v d
  | _, _, .non => .non
  | _, _, .bl b => .bl b
  | _, _, .int i => .int i
  | _, _, .str x => .str x
  | _, _, .scr h r => .scr (s.seq h) (DenAll.mono s r)
  | _, _, .lst h r => .lst (s _ _ h) (DenAll.mono s r)
  | _, _, .tup h r => .tup (sqt_mono s h) (DenAll.mono s r)
  | _, _, .exc0 h x => .exc0 (s _ _ h) x
  | _, _, .exc1 h x h2 r => .exc1 (s _ _ h) x (s _ _ h2) (Den.mono s r)
  | _, _, .dic0 h => .dic0 (s _ _ h)
theorem DenAll.mono (s : Same F F') : ∀ {vs : List V} {ds : List D}, DenAll K xo F vs ds → DenAll K xo F' vs ds
  | _, _, .nil => .nil
  | _, _, .cons h r => .cons (Den.mono s h) (DenAll.mono s r)
end
theorem DenAll.length : ∀ {vs : List V} {ds : List D}, DenAll K xo H vs ds → vs.length = ds.length
  | _, _, .nil => rfl
  | _, _, .cons _ r => congrArg (· + 1) r.length
theorem DenAll.get : ∀ {vs : List V} {ds : List D} {i : Nat} {d : D}, DenAll K xo H vs ds → ds[i]? = some d → ∃ v, vs[i]? = some v ∧ Den K xo H v d
  | _, _, _, _, .nil, e => by simp at e
  | _, _, 0, _, .cons h _, e => by
    have e' := Option.some.inj (show some _ = some _ from e)
    subst e'
    exact ⟨_, rfl, h⟩
  | _, _, i + 1, d, .cons _ t, e => by
    obtain ⟨v, h1, h2⟩ := DenAll.get (i := i) (d := d) t (by simpa using e)
    exact ⟨v, by simpa using h1, h2⟩
theorem DenAll.append : ∀ {vs us : List V} {ds es : List D}, DenAll K xo H vs ds → DenAll K xo H us es → DenAll K xo H (vs ++ us) (ds ++ es)
  | _, _, _, _, .nil, s => s
  | _, _, _, _, .cons h t, s => .cons h (DenAll.append t s)
theorem DenAll.take : ∀ {vs : List V} {ds : List D} (n : Nat), DenAll K xo H vs ds → DenAll K xo H (vs.take n) (ds.take n)
  | _, _, 0, _ => .nil
  | _, _, _ + 1, .nil => .nil
  | _, _, n + 1, .cons h t => .cons h (DenAll.take n t)
theorem DenAll.drop : ∀ {vs : List V} {ds : List D} (n : Nat), DenAll K xo H vs ds → DenAll K xo H (vs.drop n) (ds.drop n)
  | _, _, 0, r => r
  | _, _, _ + 1, .nil => .nil
  | _, _, n + 1, .cons _ t => DenAll.drop n t
theorem DenAll.rev : ∀ {vs : List V} {ds : List D}, DenAll K xo H vs ds → DenAll K xo H vs.reverse ds.reverse
  | _, _, .nil => .nil
  | _, _, .cons h t => by
    rw [List.reverse_cons, List.reverse_cons]
    exact DenAll.append (DenAll.rev t) (.cons h .nil)
theorem DenAll.set : ∀ {vs : List V} {ds : List D} {v : V} {d : D} (n : Nat), Den K xo H v d → DenAll K xo H vs ds → DenAll K xo H (vs.set n v) (ds.set n d)
  | _, _, _, _, _, _, .nil => .nil
  | _, _, _, _, 0, h, .cons _ t => .cons h t
  | _, _, _, _, n + 1, h, .cons q t => .cons q (DenAll.set n h t)
theorem DenAll.rep {vs : List V} {ds : List D} (h : DenAll K xo H vs ds) : ∀ n : Nat, DenAll K xo H (List.replicate n vs).flatten (DL.rep n ds)
  | 0 => .nil
  | n + 1 => by
    show DenAll K xo H (List.replicate (n + 1) vs).flatten (List.replicate (n + 1) ds).flatten
    rw [List.replicate_succ, List.replicate_succ, List.flatten_cons, List.flatten_cons]
    exact h.append (DenAll.rep h n)
theorem DenAll.cutD {vs : List V} {ds : List D} (h : DenAll K xo H vs ds) (lo hi : Option Int) : DenAll K xo H (cutV vs lo hi) (cut ds lo hi) := by
  unfold cutV cut
  rw [h.length]
  exact (h.drop _).take _
theorem DenAll.ints : ∀ {vs : List V} {ds : List D} {ns : List Int}, DenAll K xo H vs ds → ints? ds = some ns → vs = ns.map V.int
  | _, _, _, .nil, e => by
    have e' := Option.some.inj (show some [] = some _ from e)
    subst e'
    rfl
  | _, d :: ds, ns, .cons h t, e => by
    cases d with
    | int i =>
      cases h
      have e' : (ints? ds).map (i :: ·) = some ns := e
      cases q : ints? ds with
      | none => rw [q] at e'; cases e'
      | some ms =>
        rw [q] at e'
        have e2 := Option.some.inj e'
        subst e2
        rw [DenAll.ints t q]
        rfl
    | none => cases e
    | bool _ => cases e
    | str _ => cases e
    | list _ => cases e
    | tuple _ => cases e
    | dict _ => cases e
mutual
theorem Den.dp : ∀ {v : V} {d : D}, Den K xo H v d → d.canLay0 = true → Dp K H v d
  | _, _, .non, _ => .non
  | _, _, .bl b, _ => .bl b
  | _, _, .int i, _ => .int i
  | _, _, .str x, _ => .str x
  | _, _, .scr _ _, l => by simp only [PyData.canLay0] at l; cases l
  | _, _, .lst h r, l => .lst (.inl (.inl h)) (DenAll.dp r (by simpa only [PyData.canLay0] using l))
  | _, _, .tup h r, l => .tup h (DenAll.dp r (by simpa only [PyData.canLay0] using l))
  | _, _, .exc0 _ _, l => by simp only [PyData.canLay0] at l; cases l
  | _, _, .exc1 _ _ _ _, l => by simp only [PyData.canLay0] at l; cases l
  | _, _, .dic0 _, l => by simp only [PyData.canLay0] at l; cases l
theorem DenAll.dp : ∀ {vs : List V} {ds : List D}, DenAll K xo H vs ds → PyData.canLayAll0 ds = true → DpAll K H vs ds
  | _, _, .nil, _ => .nil
  | _, _, .cons h r, l => by
    simp only [PyData.canLayAll0, Bool.and_eq_true] at l
    exact .cons (Den.dp h l.1) (DenAll.dp r l.2)
end
theorem den_lay {v : V} {d : D} (h : Den K xo H v d) (l : lay d = true) : Dp K H v d := h.dp (SeqAt.canLay_of_shaped l)
theorem den_tru {v : V} {d : D} {b : Bool} (h : Den K xo H v d) (e : tru d = some b) : TruV K v H b := by
  cases h with
  | non => exact (Option.some.inj e).symm
  | bl b => exact (Option.some.inj e).symm
  | int i => exact (Option.some.inj e).symm
  | str x =>
    have e' : (if x.length ≤ lim then some ((x.length : Int) != 0) else none) = some b := e
    by_cases hx : x.length ≤ lim
    · rw [if_pos hx] at e'
      exact ⟨Nat.le_trans hx (by decide), (Option.some.inj e').symm⟩
    · rw [if_neg hx] at e'
      cases e'
  | lst h r =>
    refine .inl ⟨_, .inl (.inl h), ?_⟩
    have e' := Option.some.inj e
    rw [← e']
    cases r <;> rfl
  | tup h r =>
    refine .inr (.inl ⟨_, h, ?_⟩)
    have e' := Option.some.inj e
    rw [← e']
    cases r <;> rfl
  | scr _ _ => cases e
  | exc0 _ _ => cases e
  | exc1 _ _ _ _ => cases e
  | dic0 _ => cases e
end

/-- a frame's ground: the heap and the frozen part at its entry, the list that was handed in as its own -/
structure FB where
  H0 : Hp
  F0 : Hp
  /-- what may be written -/
  M : Addr → Prop
  pa : Option Addr
/-- a list that is one's own, to freeze or to hand on -/
def FB.mine (B : FB) (p : Addr) : Prop := B.H0 p = none ∨ (B.M p ∧ B.pa ≠ some p)

/-- the tables stand by their names; none is frozen -/
structure TabN (T : List (Addr × Str)) (F H : Hp) : Prop where
  t : LamX.Tabs T H
  nt : ∀ a ps, F a ≠ some (.tbl ps)
structure Rel (K : PySem.W.Frag) (xo : XO) (B : FB) (F : Hp) (σ : L2.St) (H : Hp) (e : Env) : Prop where
  sub : Same F H
  sub0 : Same B.F0 F
  new : ∀ a, F a ≠ none → B.F0 a ≠ none ∨ B.mine a
  hpa : ∀ a, B.pa = some a → B.H0 a ≠ none
  keep : ∀ a o, B.H0 a = some o → ¬ B.M a → (∀ ps, o ≠ .tbl ps) → H a = some o
  tbk : ∀ a ps, B.H0 a = some (.tbl ps) → ∃ ps', H a = some (.tbl ps')
  tabs : TabN xo.T F H
  ob : ∀ a, B.M a → H a ≠ none
  len : σ.length = e.length
  val : ∀ (i : Nat) d, e[i]? = some (.val d) → ∃ v, σ[i]? = some (some v) ∧ Den K xo F v d
  own : ∀ (i : Nat) p ds, e[i]? = some (.own p ds) → ∃ a vs, σ[i]? = some (some (.ref a)) ∧ H a = some (.lst vs) ∧ F a = none ∧ DenAll K xo F vs ds ∧ (B.M a ∨ B.H0 a = none) ∧ (p = true ↔ B.pa = some a)
  sep : ∀ (i j : Nat) (a : Addr) p q ds es, e[i]? = some (.own p ds) → e[j]? = some (.own q es) → σ[i]? = some (some (.ref a)) → σ[j]? = some (some (.ref a)) → i = j

section
variable {K : PySem.W.Frag} {xo : XO} {B : FB} {F H : Hp} {σ : L2.St} {e : Env}
theorem same_upd {H : Hp} {p : Addr} {o : HO} (h : H p = none) : Same H (upd H p o) := fun b x q => by
  rw [upd_ne (ne_of_none q h)]
  exact q
theorem Rel.h0 (r : Rel K xo B F σ H e) {p : Addr} (h : H p = none) : B.H0 p = none := by
  cases q : B.H0 p with
  | none => rfl
  | some o =>
    by_cases z : B.M p
    · exact absurd h (r.ob p z)
    · by_cases t : ∃ ps, o = .tbl ps
      · obtain ⟨ps, rfl⟩ := t
        obtain ⟨ps', e⟩ := r.tbk p ps q
        rw [e] at h
        cases h
      · rw [r.keep p o q z (fun ps e => t ⟨ps, e⟩)] at h
        cases h
theorem Rel.f0 (r : Rel K xo B F σ H e) {p : Addr} (h : H p = none) : F p = none := by
  cases q : F p with
  | none => rfl
  | some o => rw [r.sub p o q] at h; cases h
/-- a new list, not frozen -/
theorem Rel.fresh (r : Rel K xo B F σ H e) {p : Addr} {o : HO} (h : H p = none) : Rel K xo B F σ (upd H p o) e where
  sub := r.sub.trans (same_upd h)
  sub0 := r.sub0
  new := r.new
  hpa := r.hpa
  keep := fun a u q z t => same_upd h a u (r.keep a u q z t)
  tbk := fun a ps q => (r.tbk a ps q).imp fun _ e => same_upd h a _ e
  tabs := ⟨r.tabs.t.ext (same_upd h), r.tabs.nt⟩
  ob := fun a z => by
    by_cases q : a = p
    · subst q; rw [upd_same]; exact fun x => nomatch x
    · rw [upd_ne q]; exact r.ob a z
  len := r.len
  val := r.val
  own := fun i pp ds q => by
    obtain ⟨a, vs, h1, h2, h3, h4, h5⟩ := r.own i pp ds q
    exact ⟨a, vs, h1, same_upd h _ _ h2, h3, h4, h5⟩
  sep := r.sep
/-- an object is frozen as it stands -/
theorem Rel.freeze (r : Rel K xo B F σ H e) {p : Addr} {u : HO} (hF : F p = none) (hH : H p = some u) (h0 : B.mine p) (hown : ∀ (i : Nat) pp ds, e[i]? = some (.own pp ds) → σ[i]? ≠ some (some (.ref p))) (hu : ∀ ps, u ≠ .tbl ps := by intro ps z; cases z) :
    Rel K xo B (upd F p u) σ H e where
  sub := fun a o q => by
    by_cases z : a = p
    · subst z; rw [upd_same] at q; cases q; exact hH
    · rw [upd_ne z] at q; exact r.sub a o q
  sub0 := r.sub0.trans (same_upd hF)
  new := fun a q => by
    by_cases z : a = p
    · subst z; exact .inr h0
    · rw [upd_ne z] at q; exact r.new a q
  hpa := r.hpa
  keep := r.keep
  tbk := r.tbk
  tabs := ⟨r.tabs.t, fun a ps q => by
    by_cases z : a = p
    · subst z; rw [upd_same] at q; exact hu ps (Option.some.inj q)
    · rw [upd_ne z] at q; exact r.tabs.nt a ps q⟩
  ob := r.ob
  len := r.len
  val := fun i d q => by
    obtain ⟨v, h1, h2⟩ := r.val i d q
    exact ⟨v, h1, h2.mono (same_upd hF)⟩
  own := fun i pp ds q => by
    obtain ⟨a, vs, h1, h2, h3, h4, h5⟩ := r.own i pp ds q
    have ne : a ≠ p := fun z => hown i pp ds q (by rw [← z]; exact h1)
    exact ⟨a, vs, h1, h2, by rw [upd_ne ne]; exact h3, h4.mono (same_upd hF), h5⟩
  sep := r.sep
theorem Rel.ownNe (r : Rel K xo B F σ H e) {p : Addr} (h : H p = none) (i : Nat) (pp : Bool) (ds : List D) (q : e[i]? = some (.own pp ds)) : σ[i]? ≠ some (some (.ref p)) := fun z => by
  obtain ⟨a, vs, h1, h2, _⟩ := r.own i pp ds q
  rw [h1] at z
  injection z with z
  injection z with z
  injection z with z
  rw [z, h] at h2
  cases h2
/-- a new object, frozen at once -/
theorem Rel.laid (r : Rel K xo B F σ H e) {p : Addr} {u : HO} (h : H p = none) (hu : ∀ ps, u ≠ .tbl ps := by intro ps z; cases z) : Rel K xo B (upd F p u) σ (upd H p u) e :=
  (r.fresh h).freeze (r.f0 h) upd_same (.inl (r.h0 h)) (fun i pp ds q => r.ownNe h i pp ds q) hu
/-- more is frozen by others -/
theorem Rel.den (r : Rel K xo B F σ H e) {v : V} {d : D} (h : Den K xo F v d) : Den K xo H v d := h.mono r.sub
end

/-- an exception in the air: its class by name, what it keeps -/
def ExW (K : PySem.W.Frag) (xo : XO) (mg : Str → Option Value) (c : Str) (ps : List D) (cls : Value) (dx : Option Addr) (H F : Hp) : Prop :=
  ∃ C : Addr, mg c = some (.ref C) ∧ cls = .ref C ∧ match ps with
    | [] => dx = none
    | [p] => ∃ d v, dx = some d ∧ F d = some (.xd [(fieldOf c, v)]) ∧ Den K xo F v p
    | _ => False

section
variable (K : PySem.W.Frag) (xo : XO) (mg : Str → Option Value) (W : WX)
/-- what is wanted behind a term -/
def PostE (B : FB) (σ : L2.St) (F : Hp) (r : R DV) (Q : VK) : Prop := match r with
  | .ok (.d d) e => ∀ v H' F', Rel K xo B F' σ H' e → Same F F' → Den K xo F' v d → Q v H'
  | .ok (.fr ds) e => ∀ p vs H' F', Rel K xo B F' σ H' e → Same F F' → H' p = some (.lst vs) → F' p = none → DenAll K xo F' vs ds → B.mine p →
      (∀ (i : Nat) pp es, e[i]? = some (.own pp es) → σ[i]? ≠ some (some (.ref p))) → Q (.ref p) H'
  | .exn c ps e => ∀ cls dx H' F', Rel K xo B F' σ H' e → Same F F' → ExW K xo mg c ps cls dx H' F' → W cls dx σ H'
  | .bad => False
/-- .. behind something else (a list of data, a truth): R is asked of it and the state -/
def PostX {α : Type} (B : FB) (σ : L2.St) (F : Hp) (r : R α) (Q : α → Env → Hp → Hp → Prop) : Prop := match r with
  | .ok a e => ∀ H' F', Rel K xo B F' σ H' e → Same F F' → Q a e F' H'
  | .exn c ps e => ∀ cls dx H' F', Rel K xo B F' σ H' e → Same F F' → ExW K xo mg c ps cls dx H' F' → W cls dx σ H'
  | .bad => False
end

section
variable {K : PySem.W.Frag} {xo : XO} {mg : Str → Option Value} {W : WX} {B : FB} {σ : L2.St} {F F1 H : Hp} {e : Env} {Q Q' : VK}
theorem PostE.sub {r : R DV} (h : PostE K xo mg W B σ F r Q) (s : Same F F1) : PostE K xo mg W B σ F1 r Q := by
  cases r with
  | bad => exact h
  | exn c ps e => exact fun cls dx H' F' r1 s1 x => h cls dx H' F' r1 (s.trans s1) x
  | ok v e =>
    cases v with
    | d d => exact fun v H' F' r1 s1 x => h v H' F' r1 (s.trans s1) x
    | fr ds => exact fun p vs H' F' r1 s1 => h p vs H' F' r1 (s.trans s1)
theorem PostE.imp {r : R DV} (h : PostE K xo mg W B σ F r Q) (q : ∀ v H, Q v H → Q' v H) : PostE K xo mg W B σ F r Q' := by
  cases r with
  | bad => exact h
  | exn c ps e => exact h
  | ok v e =>
    cases v with
    | d d => exact fun v H' F' r1 s1 x => q _ _ (h v H' F' r1 s1 x)
    | fr ds => exact fun p vs H' F' r1 s1 a b c d f => q _ _ (h p vs H' F' r1 s1 a b c d f)
/-- data that stands already -/
theorem post_val {d : D} {v : V} (r : Rel K xo B F σ H e) (h : PostE K xo mg W B σ F (.ok (.d d) e) Q) (x : Den K xo F v d) : Q v H := h v H F r (Same.refl _) x
theorem post_tup {ds : List D} {vs : List V} (r : Rel K xo B F σ H e) (h : PostE K xo mg W B σ F (.ok (.d (.tuple ds)) e) Q) (x : DenAll K xo F vs ds) :
    ∀ p, H p = none → Q (.ref p) (upd H p (.tup vs)) := fun p hp => by
  have s := same_upd (o := HO.tup vs) (r.f0 hp)
  exact h _ _ _ (r.laid hp) s (.tup (.inl (.inl upd_same)) (x.mono s))
theorem post_lst {ds : List D} {vs : List V} (r : Rel K xo B F σ H e) (h : PostE K xo mg W B σ F (.ok (.fr ds) e) Q) (x : DenAll K xo F vs ds) :
    ∀ p, H p = none → Q (.ref p) (upd H p (.lst vs)) := fun p hp =>
  h p vs _ F (r.fresh hp) (Same.refl _) upd_same (r.f0 hp) x (.inl (r.h0 hp)) (fun i pp ds q => r.ownNe hp i pp ds q)
end

section
variable (K : PySem.W.Frag) (xo : XO) (mg : Str → Option Value) (G : List D) (Γ : List Fn) (W : WX)
/-- a term's reading -/
def tE (a : Ex) : TE := fun σ H Q => ∃ B F e, Rel K xo B F σ H e ∧ PostE K xo mg W B σ F (evE G Γ a e) Q
def tEs (as : Exs) : TA := fun σ H Q => ∃ B F e, Rel K xo B F σ H e ∧ PostX K xo mg W B σ F (evEs G Γ as e) fun ds e1 F1 H1 => ∀ vs, DenAll K xo F1 vs ds → Q vs H1
end
section
variable {K : PySem.W.Frag} {xo : XO} {mg : Str → Option Value} {G : List D} {Γ : List Fn} {W : WX} {B : FB} {σ : L2.St} {F H : Hp} {e : Env}
/-- one term, and what follows it -/
theorem tE_bind {a : Ex} {f : DV → Env → R DV} {Q : VK} {T : V → Hp → Prop} (r : Rel K xo B F σ H e) (h : PostE K xo mg W B σ F ((evE G Γ a e).bind f) Q) (hf : ∀ x y e, x.fz = y.fz → f x e = f y e)
    (k : ∀ (x : D) e1 v H1 F1, Rel K xo B F1 σ H1 e1 → Same F F1 → Den K xo F1 v x → PostE K xo mg W B σ F1 (f (.d x) e1) Q → T v H1) : tE K xo mg G Γ W a σ H T := by
  refine ⟨B, F, e, r, ?_⟩
  cases q : evE G Γ a e with
  | bad => rw [q] at h; exact h.elim
  | exn c ps e1 => rw [q] at h; exact h
  | ok x e1 =>
    rw [q] at h
    cases x with
    | d x => exact fun v H' F' r1 s1 x1 => k x e1 v H' F' r1 s1 x1 (PostE.sub h s1)
    | fr ds =>
      refine fun p vs H' F' r1 s1 hp hF x1 h0 ho => ?_
      have s2 := s1.trans (same_upd (o := HO.lst vs) hF)
      have h' : PostE K xo mg W B σ F (f (.d (.list ds)) e1) Q := by
        rw [← hf (.fr ds) (.d (.list ds)) e1 rfl]
        exact h
      exact k (.list ds) e1 (.ref p) H' (upd F' p (.lst vs)) (r1.freeze hF hp h0 ho) s2 (.lst upd_same (x1.mono (same_upd hF))) (PostE.sub h' s2)
end
/-- a reading may be asked for less -/
theorem PE.imp {X : Cx} {e : Expr} {t t' : TE} (h : PE X e t) (i : ∀ σ H Q, t' σ H Q → t σ H Q) : PE X e t' := ⟨fun pins s σ H Q I q => h.run pins s σ H Q I (i σ H Q q)⟩
theorem PT.imp {X : Cx} {e : Expr} {t t' : TT} (h : PT X e t) (i : ∀ σ H Q, t' σ H Q → t σ H Q) : PT X e t' := ⟨fun pins s σ H Q I q => h.run pins s σ H Q I (i σ H Q q)⟩
theorem PA.imp {X : Cx} {es : List Expr} {t t' : TA} (h : PA X es t) (i : ∀ σ H Q, t' σ H Q → t σ H Q) : PA X es t' := ⟨fun pos pins s σ H Q I q => h.run pos pins s σ H Q I (i σ H Q q)⟩
theorem PS.imp {X : Cx} {e : Stmt} {t t' : TS} (h : PS X e t) (i : ∀ D σ H, t' D σ H → t D σ H) : PS X e t' := ⟨fun pins s σ H D I q => h.run pins s σ H D I (i D σ H q)⟩
theorem PSs.imp {X : Cx} {e : List Stmt} {t t' : TS} (h : PSs X e t) (i : ∀ D σ H, t' D σ H → t D σ H) : PSs X e t' := ⟨fun pins s σ H D I q => h.run pins s σ H D I (i D σ H q)⟩
end DL


set_option Elab.async false
set_option linter.all false
set_option maxRecDepth 100000
set_option maxHeartbeats 1000000
/-! DL2: the operators, tests and built-ins of DL0 are what the machine does. -/
namespace DL
open PySem PySem.Spec PyProof.Rows L2

theorem lim_line {n : Nat} (h : n ≤ lim) : n ≤ sizeLine := Nat.le_trans h (by decide)
theorem lim_lt {n : Nat} (h : n < lim) : n < sizeLine := Nat.lt_of_lt_of_le h (by decide)
def opB : Bop → Operator
  | .add => .Add | .sub => .Sub | .mul => .Mult | .fdiv => .FloorDiv | .mod => .Mod | .pow => .Pow
def opC : Cop → CmpOp
  | .eq => .Eq | .ne => .NotEq | .lt => .Lt | .le => .LtE | .gt => .Gt | .ge => .GtE | .isn => .Is | .notn => .IsNot | .mem => .In | .nmem => .NotIn

section
variable (K : PySem.W.Frag) (xo : XO) (mg : Str → Option Value) (W : WX)
def rBin (o : Bop) : R2 := fun x y H Q => ∃ (B : FB) (F : Hp) (σ : L2.St) (e : Env) (dx dy : D) (dv : DV), Rel K xo B F σ H e ∧ Den K xo F x dx ∧ Den K xo F y dy ∧ bin o dx dy = some dv ∧ PostE K xo mg W B σ F (.ok dv e) Q
def rCmp (o : Cop) : R2 := fun x y H Q => ∃ (F : Hp) (dx dy : D) (b : Bool), Same F H ∧ Den K xo F x dx ∧ Den K xo F y dy ∧ cmp o dx dy = some b ∧ Q (.bl b) H
def rBi (f : Bi) : List V → Hp → VK → Prop := fun vs H Q => ∃ (B : FB) (F : Hp) (σ : L2.St) (e : Env) (ds : List D) (dv : DV), Rel K xo B F σ H e ∧ DenAll K xo F vs ds ∧ bi f ds = some dv ∧ PostE K xo mg W B σ F (.ok dv e) Q
end

theorem tupMulOne (l : Addr) (items : Array Value) (n : Nat) (dd : Option Addr) (sl : Array (Option Value)) (u : Tok) :
    Meets (Builtin.«tuple.__mul__» ⟨[.ref l, .int 1 u], []⟩) (fun _ R s => s.heap.get? l = some { cls := .type "tuple", dict := dd, data := .seq items n, slots := sl } ∧ R (.ok (.ret (Value.ref l))) s) :=
  .of_wp fun prog w A R s h => by
    obtain ⟨hp, g, d, tk, os⟩ := s
    obtain ⟨hl, h⟩ := h
    have f1 := AutoSeq1.idx_int
    wp_walk using wpAny_loadPart' hl
    exact ⟨_, rfl, h⟩

theorem tupMulNil (l : Addr) (items : Array Value) (n : Nat) (dd : Option Addr) (sl : Array (Option Value)) (x : Int) (u : Tok) (c0 : (decide (x < -(2 ^ 63)) || decide (x ≥ 2 ^ 63)) = false) (c1 : (items.isEmpty || x == 1) = false) (c2 : (decide (x ≤ 0) || items.isEmpty) = true) :
    Meets (Builtin.«tuple.__mul__» ⟨[.ref l, .int x u], []⟩) (fun _ R s => s.heap.get? l = some { cls := .type "tuple", dict := dd, data := .seq items n, slots := sl } ∧
      R (.ok (.ret (Value.ref s.heap.objs.size))) { s with heap := s.heap.push { cls := Value.type "tuple", data := Data.seq #[] }, toks := s.toks }) :=
  .of_wp fun prog w A R s h => by
    obtain ⟨hp, g, d, tk, os⟩ := s
    obtain ⟨hl, h⟩ := h
    have f1 := AutoSeq1.idx_int
    wp_walk using wpAny_loadPart' hl
    repeat (first
      | (refine wpAny_ite_false (decide_eq_false (by rw [c0]; exact Bool.false_ne_true)) ?_; wp_walk using wpAny_loadPart' hl)
      | (refine wpAny_ite_false (decide_eq_false (by rw [c1]; exact Bool.false_ne_true)) ?_; wp_walk using wpAny_loadPart' hl)
      | (refine wpAny_ite_true (decide_eq_true (by rw [c2])) ?_; wp_walk using wpAny_loadPart' hl))
    exact ⟨_, rfl, h⟩
section
variable {X : Cx} {xo : XO} {mg : Str → Option Value} {W : WX}
/-- / rounded down -/
def CMulA (i j : Int) : Prop := i.natAbs < 2 ^ 64 ∨ j.natAbs < 2 ^ 64 ∨ i.natAbs.log2 + j.natAbs.log2 < 1000000
theorem bits64 {x : Int} (h : x.natAbs < 2 ^ 64) : Builtin.Int.intBits x ≤ 64 := by
  by_cases z : x.natAbs = 0
  · have e : x = 0 := by omega
    subst e
    decide
  · have h1 : x.natAbs.log2 < 64 := (Nat.log2_lt z).mpr h
    unfold Builtin.Int.intBits
    split <;> omega
theorem op_mulA : OpR X (binaryOp .Mult) (rI CMulA fun i j => .int (i * j)) := opI fun _ _ _ _ _ _ _ hc q => by
  rcases hc with hc | hc | hc
  · exact mul_int q (.of_left (bits64 hc))
  · exact mul_int q (.of_right (bits64 hc))
  · exact mul_int q (CMulW.ok hc)
theorem noPy {x y : Int} (h : y.natAbs.log2 < 9000 ∨ x.natAbs.log2 < 13400) : Builtin.divisionGoesByPylong x y = false := by
  by_cases hy : y.natAbs.log2 < 9000
  · exact PyProof.noPylong_of_log2 hy
  · have hx : x.natAbs.log2 < 13400 := h.resolve_left hy
    have y0 : y ≠ 0 := fun z => by rw [z] at hy; exact hy (by decide +kernel)
    show (decide ((if y == 0 then 0 else y.natAbs.log2 / 30 + 1) > 300) && decide ((if x == 0 then 0 else x.natAbs.log2 / 30 + 1) > (if y == 0 then 0 else y.natAbs.log2 / 30 + 1) + 150)) = false
    have e1 : (if y == 0 then 0 else y.natAbs.log2 / 30 + 1) = y.natAbs.log2 / 30 + 1 := if_neg (by simpa using y0)
    have e2 : (if x == 0 then 0 else x.natAbs.log2 / 30 + 1) ≤ x.natAbs.log2 / 30 + 1 := by split <;> omega
    rw [e1, decide_eq_false (p := _ > y.natAbs.log2 / 30 + 1 + 150) (by omega), Bool.and_false]
theorem op_fdivA : OpR X (binaryOp .FloorDiv) (rI (fun i j => j ≠ 0 ∧ (j.natAbs.log2 < 9000 ∨ i.natAbs.log2 < 13400)) fun i j => .int (i.fdiv j)) :=
  opI fun _ _ _ _ _ _ _ hc q => floordiv_int hc.1 q (.inl (noPy hc.2))
/-- a tuple once is itself -/
theorem op_tup1 : OpR X (binaryOp .Mult) (fun x y H Q => ∃ l xs, x = .ref l ∧ y = .int 1 ∧ SqT X.K H l xs ∧ Q (.ref l) H) := by
  intro pins s σ H x y v u Q I rx ry h
  obtain ⟨l, xs, rfl, rfl, hT, q⟩ := h
  cases rx
  obtain ⟨t, rfl⟩ := ry
  obtain ⟨its, r, ⟨⟨cls, dd, data, sl⟩, ho, hc, n, hd⟩, hs⟩ := I.tuple hT
  dsimp only at hc hd
  subst hc hd
  exact wpAny_binaryOp_repeat_ref (T := "tuple") (U := "int") (by decide) ⟨_, ho, rfl⟩ (fun s' => typeIs_int s' 1 t) noFill_tuple_mul F.fills_int_mul F.slot_int_rmul repeat_tuple F.slot_int_index.lookup
    (call_meets F.slot_int_rmul (typeIs_int s 1 t) F.entry_int_rmul (F.args_int_rmul_2 _ _) (int_rmul_tuple 1 t l its.toArray n dd sl)
      ⟨ho, rfl, ⟨_, ho, rfl⟩, call_meets F.slot_tuple_mul ⟨_, ho, rfl⟩ F.entry_tuple_mul (F.args_tuple_mul_2 _ _) (tupMulOne l its.toArray n dd sl t) ⟨ho, ⟨.ref l, H, I, rfl, q⟩⟩⟩)
/-- a tuple no time at all is the empty one, made anew -/
theorem op_tup0 : OpR X (binaryOp .Mult) (fun x y H Q => ∃ l k xs, x = .ref l ∧ y = .int k ∧ SqT X.K H l xs ∧ xs ≠ [] ∧ -1000000 ≤ k ∧ k ≤ 0 ∧ ∀ p, H p = none → Q (.ref p) (upd H p (.tup []))) := by
  intro pins s σ H x y v u Q I rx ry h
  obtain ⟨l, k, xs, rfl, rfl, hT, hne, k1, k2, q⟩ := h
  cases rx
  obtain ⟨t, rfl⟩ := ry
  obtain ⟨its, r, ⟨⟨cls, dd, data, sl⟩, ho, hc, n, hd⟩, hs⟩ := I.tuple hT
  dsimp only at hc hd
  subst hc hd
  have hle : its.length = xs.length := r.length.symm
  have hi : its.toArray.isEmpty = false := by
    cases its with
    | nil => exact absurd (List.eq_nil_of_length_eq_zero hle.symm) hne
    | cons a b => rfl
  have c0 : (decide (k < -(2 ^ 63)) || decide (k ≥ 2 ^ 63)) = false := by
    rw [decide_eq_false (by omega), decide_eq_false (by omega)] <;> rfl
  have c1 : (its.toArray.isEmpty || k == 1) = false := by
    rw [hi, Bool.false_or]
    exact beq_eq_false_iff_ne.mpr (by omega)
  have c2 : (decide (k ≤ 0) || its.toArray.isEmpty) = true := by
    rw [decide_eq_true k2]; rfl
  refine wpAny_binaryOp_repeat_ref (T := "tuple") (U := "int") (by decide) ⟨_, ho, rfl⟩ (fun s' => typeIs_int s' k t) noFill_tuple_mul F.fills_int_mul F.slot_int_rmul repeat_tuple F.slot_int_index.lookup
    (call_meets F.slot_int_rmul (typeIs_int s k t) F.entry_int_rmul (F.args_int_rmul_2 _ _) (int_rmul_tuple k t l its.toArray n dd sl)
      ⟨ho, rfl, ⟨_, ho, rfl⟩, call_meets F.slot_tuple_mul ⟨_, ho, rfl⟩ F.entry_tuple_mul (F.args_tuple_mul_2 _ _) (tupMulNil l its.toArray n dd sl k t c0 c1 c2) ⟨ho, ?_⟩⟩)
  refine ⟨.ref s.heap.objs.size, _, I.laid (t' := s.toks) (o := .tup []) (fun b ob q => Heap.get?_push_of_some _ q) (Nat.le_refl _) ?_, rfl, q _ (I.hok.fresh (Nat.le_refl _))⟩
  exact ⟨Nat.zero_le _, _, .nil, IsTup.new _ _⟩
theorem denAll_nil {K : PySem.W.Frag} {H : Hp} {vs : List V} {ds : List D} (h : DenAll K xo H vs ds) : vs = [] ↔ ds = [] := by
  cases h with
  | nil => exact ⟨fun _ => rfl, fun _ => rfl⟩
  | cons _ _ => exact ⟨(fun z => nomatch z), (fun z => nomatch z)⟩
theorem bin_ok (o : Bop) : OpR X (binaryOp (opB o)) (rBin X.K xo mg W o) := by
  intro pins s σ H x y v u Q I rx ry h
  obtain ⟨B, F, σ', e, dx, dy, dv, r, hx, hy, hb, post⟩ := h
  unfold bin at hb
  split at hb
  · cases hx; cases hy
    have z := Option.some.inj hb
    subst z
    exact op_add pins s σ H _ _ v u Q I rx ry ⟨_, _, rfl, rfl, post_val r post (.int _)⟩
  · rename_i xs ys
    split at hb
    · rename_i hl
      have z := Option.some.inj hb
      subst z
      cases hx with
      | tup h1 a1 => cases hy with
        | tup h2 a2 =>
          refine op_catA pins s σ H _ _ v u Q I rx ry ⟨_, _, _, _, rfl, rfl, sqt_mono r.sub h1, sqt_mono r.sub h2, ?_, fun z => ?_, fun _ z => ?_, fun _ _ => ?_⟩
          · rw [a1.length, a2.length]; exact lim_line hl
          · have z' := (denAll_nil a1).mp z
            subst z'
            exact post_val r post (.tup h2 a2)
          · have z' := (denAll_nil a2).mp z
            subst z'
            rw [List.append_nil] at post
            exact post_val r post (.tup h1 a1)
          · exact post_tup r post (a1.append a2)
    · cases hb
  · rename_i xs ys
    split at hb
    · rename_i hl
      have z := Option.some.inj hb
      subst z
      cases hx with
      | lst h1 a1 => cases hy with
        | lst h2 a2 =>
          exact op_cat pins s σ H _ _ v u Q I rx ry ⟨_, _, _, _, rfl, rfl, r.sub _ _ h1, r.sub _ _ h2, by rw [a1.length, a2.length]; exact lim_line hl, post_lst r post (a1.append a2)⟩
    · cases hb
  · split at hb
    · rename_i hl
      have z := Option.some.inj hb
      subst z
      cases hx; cases hy
      exact op_add_str pins s σ H _ _ v u Q I rx ry ⟨_, _, rfl, rfl, lim_line hl, post_val r post (.str _)⟩
    · cases hb
  · cases hx; cases hy
    have z := Option.some.inj hb
    subst z
    exact op_sub pins s σ H _ _ v u Q I rx ry ⟨_, _, rfl, rfl, post_val r post (.int _)⟩
  · split at hb
    · rename_i hl
      have z := Option.some.inj hb
      subst z
      cases hx; cases hy
      exact op_mulA pins s σ H _ _ v u Q I rx ry ⟨_, _, rfl, rfl, hl, post_val r post (.int _)⟩
    · cases hb
  · rename_i xs k
    split at hb
    · rename_i hk
      subst hk
      have z := Option.some.inj hb
      subst z
      cases hy
      cases hx with
      | tup h1 a1 => exact op_tup1 pins s σ H _ _ v u Q I rx ry ⟨_, _, rfl, rfl, sqt_mono r.sub h1, post_val r post (.tup h1 a1)⟩
    · split at hb
      · rename_i hk
        obtain ⟨k1, k2, k3, k4⟩ := hk
        have z := Option.some.inj hb
        subst z
        cases hy
        cases hx with
        | tup h1 a1 => exact op_repT pins s σ H _ _ v u Q I rx ry ⟨_, _, _, rfl, rfl, sqt_mono r.sub h1, fun z => k4 ((denAll_nil a1).mp z), k1, k2, by rw [a1.length]; exact k3, post_tup r post (a1.rep k.toNat)⟩
      · split at hb
        · rename_i hk
          obtain ⟨k1, k2, k4⟩ := hk
          have z := Option.some.inj hb
          subst z
          cases hy
          cases hx with
          | tup h1 a1 => exact op_tup0 pins s σ H _ _ v u Q I rx ry ⟨_, _, _, rfl, rfl, sqt_mono r.sub h1, fun z => k4 ((denAll_nil a1).mp z), k1, k2, post_tup r post .nil⟩
        · cases hb
  · rename_i xs k
    split at hb
    · rename_i hk
      obtain ⟨k1, k2, k3⟩ := hk
      have z := Option.some.inj hb
      subst z
      cases hy
      cases hx with
      | lst h1 a1 => exact op_rep pins s σ H _ _ v u Q I rx ry ⟨_, _, _, rfl, rfl, r.sub _ _ h1, by omega, by omega, by rw [a1.length]; exact lim_line k3, post_lst r post (a1.rep k.toNat)⟩
    · cases hb
  · split at hb
    · rename_i hl
      have z := Option.some.inj hb
      subst z
      cases hx; cases hy
      exact op_fdivA pins s σ H _ _ v u Q I rx ry ⟨_, _, rfl, rfl, hl, post_val r post (.int _)⟩
    · cases hb
  · split at hb
    · rename_i hl
      have z := Option.some.inj hb
      subst z
      cases hx; cases hy
      exact op_modN pins s σ H _ _ v u Q I rx ry ⟨_, _, rfl, rfl, hl, post_val r post (.int _)⟩
    · cases hb
  · split at hb
    · rename_i hl
      have z := Option.some.inj hb
      subst z
      cases hx; cases hy
      exact op_pow pins s σ H _ _ v u Q I rx ry ⟨_, _, rfl, rfl, hl, post_val r post (.int _)⟩
    · cases hb
  · cases hb

theorem flat_den {K : PySem.W.Frag} {H : Hp} {v : V} {d : D} (h : Den K xo H v d) (f : flat d = true) : flatV v = true := by
  cases h <;> first | rfl | cases f
theorem flat_eqv {K : PySem.W.Frag} {H : Hp} {v u : V} {d e : D} (h : Den K xo H v d) (h2 : Den K xo H u e) (f : flat d = true) (g : flat e = true) : eqV v u = PyData.eqv d e := by
  cases h with
  | non => cases h2 <;> first | (cases g; done) | (simp only [PyData.eqv]; rfl)
  | bl b => cases h2 <;> first | (cases g; done) | (simp only [PyData.eqv]; rfl)
  | int i => cases h2 <;> first | (cases g; done) | (simp only [PyData.eqv]; rfl)
  | str x => cases h2 <;> first | (cases g; done) | (simp only [PyData.eqv]; rfl)
  | scr _ _ => cases f
  | lst _ _ => cases f
  | tup _ _ => cases f
  | exc0 _ _ => cases f
  | exc1 _ _ _ _ => cases f
  | dic0 _ => cases f
theorem flat_all {K : PySem.W.Frag} {H : Hp} : ∀ {vs : List V} {ds : List D}, DenAll K xo H vs ds → ds.all flat = true → vs.all flatV = true
  | _, _, .nil, _ => rfl
  | _, _, .cons h t, f => by
    rw [List.all_cons, Bool.and_eq_true] at f ⊢
    exact ⟨flat_den h f.1, flat_all t f.2⟩
theorem flat_any {K : PySem.W.Frag} {H : Hp} {u : V} {e : D} (h2 : Den K xo H u e) (g : flat e = true) : ∀ {vs : List V} {ds : List D}, DenAll K xo H vs ds → ds.all flat = true → inV u vs = ds.any fun z => PyData.eqv z e
  | _, _, .nil, _ => rfl
  | _, _, .cons h t, f => by
    rw [List.all_cons, Bool.and_eq_true] at f
    show (eqV _ u || inV u _) = (PyData.eqv _ e || _)
    rw [flat_eqv h h2 f.1 g, flat_any h2 g t f.2]
def rInDT (K : PySem.W.Frag) : R2 := fun x y H Q => ∃ d ds, Dp K H x d ∧ Dp K H y (.tuple ds) ∧ SeqAt.shaped d = true ∧ SeqAt.shaped (.tuple ds) = true ∧ Q (.bl (ds.any fun z => PyData.eqv z d)) H
def rNotInDT (K : PySem.W.Frag) : R2 := fun x y H Q => ∃ d ds, Dp K H x d ∧ Dp K H y (.tuple ds) ∧ SeqAt.shaped d = true ∧ SeqAt.shaped (.tuple ds) = true ∧ Q (.bl (!ds.any fun z => PyData.eqv z d)) H
theorem op_inDT (hu : X.A.units + 65 < cLine) : OpR X (compareOp .In) (rInDT X.K) := by
  intro pins s σ H x y v u Q I rx ry h
  obtain ⟨d, ds, hd, he, sd, se, q⟩ := h
  obtain ⟨as, r1⟩ := Dp.reads I d x v hd rx
  obtain ⟨bs, r2⟩ := Dp.reads I (.tuple ds) y u he ry
  exact SeqAt.in_tuple_reads r2 r1 (SeqAt.canLay_of_shaped se) (SeqAt.canLay_of_shaped sd) (room_in_shaped sd hu) ⟨.bl _, H, I, rfl, q⟩
theorem op_notInDT (hu : X.A.units + 65 < cLine) : OpR X (compareOp .NotIn) (rNotInDT X.K) := by
  intro pins s σ H x y v u Q I rx ry h
  obtain ⟨d, ds, hd, he, sd, se, q⟩ := h
  obtain ⟨as, r1⟩ := Dp.reads I d x v hd rx
  obtain ⟨bs, r2⟩ := Dp.reads I (.tuple ds) y u he ry
  exact SeqAt.notIn_tuple_reads r2 r1 (SeqAt.canLay_of_shaped se) (SeqAt.canLay_of_shaped sd) (room_in_shaped sd hu) ⟨.bl _, H, I, rfl, q⟩
theorem cmp_ok (hu : X.A.units + 65 < cLine) (o : Cop) : OpR X (compareOp (opC o)) (rCmp X.K xo o) := by
  intro pins s σ H x y v u Q I rx ry h
  obtain ⟨F, dx, dy, b, sb, hx, hy, hb, q⟩ := h
  replace hx := hx.mono sb
  replace hy := hy.mono sb
  unfold cmp at hb
  split at hb
  · split at hb
    · rename_i l
      rw [Bool.and_eq_true] at l
      have z := Option.some.inj hb
      subst z
      exact op_eqD (by omega) pins s σ H _ _ v u Q I rx ry ⟨_, _, den_lay hx l.1, den_lay hy l.2, l.1, l.2, q⟩
    · cases hb
  · split at hb
    · rename_i l
      rw [Bool.and_eq_true] at l
      have z := Option.some.inj hb
      subst z
      exact op_neD (by omega) pins s σ H _ _ v u Q I rx ry ⟨_, _, den_lay hx l.1, den_lay hy l.2, l.1, l.2, q⟩
    · cases hb
  · cases hx; cases hy
    have z := Option.some.inj hb
    subst z
    exact op_lt pins s σ H _ _ v u Q I rx ry ⟨_, _, rfl, rfl, q⟩
  · cases hx; cases hy
    have z := Option.some.inj hb
    subst z
    exact op_le pins s σ H _ _ v u Q I rx ry ⟨_, _, rfl, rfl, q⟩
  · cases hx; cases hy
    have z := Option.some.inj hb
    subst z
    exact op_gt pins s σ H _ _ v u Q I rx ry ⟨_, _, rfl, rfl, q⟩
  · cases hx; cases hy
    have z := Option.some.inj hb
    subst z
    exact op_ge pins s σ H _ _ v u Q I rx ry ⟨_, _, rfl, rfl, q⟩
  · cases hy
    have z := Option.some.inj hb
    refine op_isN pins s σ H _ _ v u Q I rx ry ⟨rfl, ?_⟩
    have e : decide (x = V.non) = b := by
      rw [← z]
      cases hx <;> rfl
    rw [e]
    exact q
  · cases hy
    have z := Option.some.inj hb
    refine op_notN pins s σ H _ _ v u Q I rx ry ⟨rfl, ?_⟩
    have e : (!decide (x = V.non)) = b := by
      rw [← z]
      cases hx <;> rfl
    rw [e]
    exact q
  · split at hb
    · rename_i l
      rw [Bool.and_eq_true] at l
      have z := Option.some.inj hb
      subst z
      exact op_inD hu pins s σ H _ _ v u Q I rx ry ⟨_, _, den_lay hx l.1, den_lay hy l.2, l.1, l.2, q⟩
    · cases hb
  · split at hb
    · rename_i l
      rw [Bool.and_eq_true] at l
      have z := Option.some.inj hb
      subst z
      exact op_notInD hu pins s σ H _ _ v u Q I rx ry ⟨_, _, den_lay hx l.1, den_lay hy l.2, l.1, l.2, q⟩
    · cases hb
  · split at hb
    · rename_i l
      rw [Bool.and_eq_true] at l
      have z := Option.some.inj hb
      subst z
      cases hy with
      | tup h1 a1 =>
        refine op_in_seq pins s σ H _ _ v u Q I rx ry ⟨_, _, rfl, .inr h1, flat_den hx l.1, flat_all a1 l.2, ?_⟩
        rw [flat_any hx l.1 a1 l.2]
        exact q
    · split at hb
      · rename_i l
        rw [Bool.and_eq_true] at l
        have z := Option.some.inj hb
        subst z
        exact op_inDT hu pins s σ H _ _ v u Q I rx ry ⟨_, _, den_lay hx l.1, den_lay hy l.2, l.1, l.2, q⟩
      · cases hb
  · split at hb
    · rename_i l
      rw [Bool.and_eq_true] at l
      have z := Option.some.inj hb
      subst z
      cases hy with
      | tup h1 a1 =>
        refine op_notIn_seq pins s σ H _ _ v u Q I rx ry ⟨_, _, rfl, .inr h1, flat_den hx l.1, flat_all a1 l.2, ?_⟩
        rw [flat_any hx l.1 a1 l.2]
        exact q
    · split at hb
      · rename_i l
        rw [Bool.and_eq_true] at l
        have z := Option.some.inj hb
        subst z
        exact op_notInDT hu pins s σ H _ _ v u Q I rx ry ⟨_, _, den_lay hx l.1, den_lay hy l.2, l.1, l.2, q⟩
      · cases hb
  · cases hb
end
end DL


set_option Elab.async false
set_option linter.all false
set_option maxRecDepth 100000
set_option maxHeartbeats 1000000
/-! DLT: sorted(xs), xs a list of tuples of ints, none of them empty. -/
namespace DL
open PySem PySem.Spec PyProof.Rows L2

theorem dataLe_row {β : Type} (f : β → Row) : PySem.W.dataLe false (fun b => (f b).d) = fun p q => rowLe (f p) (f q) := by
  funext p q
  show (!PySem.W.dataLt (.tuple (((f q).1 :: (f q).2).map PyData.int)) (.tuple (((f p).1 :: (f p).2).map PyData.int))) = _
  rw [PySem.W.dataLt_tuple]
  show (!PySem.W.rowLt (((f q).1 :: (f q).2).map PyData.int) (((f p).1 :: (f p).2).map PyData.int)) = _
  rw [PySem.W.dataLt_ints]
  unfold rowLe
  by_cases h : (f q).1 :: (f q).2 < (f p).1 :: (f p).2
  · have h' : ¬ (f p).1 :: (f p).2 ≤ (f q).1 :: (f q).2 := fun r => List.not_lt.mpr r h
    simp [h, h']
  · have h' : (f p).1 :: (f p).2 ≤ (f q).1 :: (f q).2 := List.not_lt.mp h
    simp [h, h']
/-- values that stand for rows -/
inductive RowsAt (K : PySem.W.Frag) (H : Hp) : List V → List Row → Prop
  | nil : RowsAt K H [] []
  | cons {v : V} {vs : List V} {r : Row} {rs : List Row} : Dp K H v r.d → RowsAt K H vs rs → RowsAt K H (v :: vs) (r :: rs)
def sortRV (xs : List V) (rs : List Row) : List V := ((xs.zip rs).mergeSort fun p q => rowLe p.2 q.2).map (·.1)
def rSortedRows (K : PySem.W.Frag) : List V → Hp → VK → Prop := fun vs H Q => ∃ (a : Addr) (xs : List V) (rs : List Row), vs = [.ref a] ∧ SqL K H a xs ∧ RowsAt K H xs rs ∧ ∀ p, H p = none → Q (.ref p) (upd H p (.lst (sortRV xs rs)))
theorem each_rvals : ∀ {us : List Value} {bs : List (V × Row)}, PySem.W.EachIs (fun u b => RelV b.1 u) us bs → Vals (bs.map (·.1)) us
  | _, _, .nil => .nil
  | _, _, .cons r rs => .cons r (each_rvals rs)
section
variable {X : Cx}
theorem rows_each {pins : List (Addr × Obj)} {σ : L2.St} {H : Hp} {s : Shared} (I : L2.Inv X pins σ H s) : ∀ {xs : List V} {rs : List Row} {us : List Value}, Vals xs us → RowsAt X.K H xs rs → PySem.W.EachIs (fun u b => RelV b.1 u) us (xs.zip rs) ∧ PySem.W.EachIs (fun u b => ∃ as, Reads s.heap u (b : V × Row).2.d as) us (xs.zip rs)
  | _, _, _, .nil, .nil => ⟨.nil, .nil⟩
  | _, _, _, .cons r t, .cons h k => by
    obtain ⟨h1, h2⟩ := rows_each I t k
    exact ⟨.cons r h1, .cons (Dp.reads I _ _ _ h r) h2⟩
theorem row_depth (r : Row) : r.d.depth = 1 := by
  show (PyData.tuple ((r.1 :: r.2).map PyData.int)).depth = 1
  simp only [PyData.depth]
  rw [PySem.W.depth_ints]
theorem cr_sortedRows (hu : X.A.units + 65 < cLine) : CallR X (.builtin "sorted") (rSortedRows X.K) := by
  intro pins s σ H vs us Q I r h
  obtain ⟨a, xs, rs, rfl, hL, hR, q⟩ := h
  obtain ⟨u, rfl, ru⟩ := vals1 r
  obtain rfl : u = Value.ref a := ru
  obtain ⟨its, rv, pl, hz⟩ := I.list hL
  obtain ⟨e1, e2⟩ := rows_each I rv hR
  refine PySem.W.sorted_data (enc := fun b : V × Row => b.2.d) pl.isList e1 e2 (PySem.W.AllAlike.of fun b c => ?_) (PySem.W.Sortable.tuples fun b => ⟨_, _, rfl⟩) ?_ (fun b _ => ?_) fun out hlo eo => ?_
  · show PySem.W.alike (.tuple _) (.tuple _) = true
    simp only [PySem.W.alike]
    exact PySem.W.alike_ints _ _
  · have h1 := e1.length
    have h2 := rv.length
    omega
  · rw [row_depth]; omega
  · rw [dataLe_row (fun b : V × Row => b.2)] at eo
    have rv2 := each_rvals eo
    have fr : H (s.heap.objs.size + 1) = none := I.hok.fresh (Nat.le_succ _)
    obtain ⟨c2, hc⟩ := PyProof.Rows.sortedAll_at s.heap its (List.toArray out)
    refine ⟨.ref (s.heap.objs.size + 1), upd H (s.heap.objs.size + 1) (.lst (sortRV xs rs)), I.laid (t' := s.toks) (o := .lst (sortRV xs rs)) (fun b o z => PyProof.Rows.sortedAll_old z) (Nat.le_succ _) ?_, rfl, q _ fr⟩
    refine ⟨?_, out, c2, rv2, hc⟩
    have h1 := e1.length
    have h2 := rv.length
    unfold sortRV
    rw [List.length_map, List.length_mergeSort]
    omega
end
theorem ints_is : ∀ {ds : List D} {ns : List Int}, ints? ds = some ns → ds = ns.map PyData.int
  | [], ns, e => by
    have e' := Option.some.inj (show some [] = some ns from e)
    subst e'
    rfl
  | d :: ds, ns, e => by
    cases d with
    | int i =>
      have e' : (ints? ds).map (i :: ·) = some ns := e
      cases q : ints? ds with
      | none => rw [q] at e'; cases e'
      | some ms =>
        rw [q] at e'
        have e2 := Option.some.inj e'
        subst e2
        rw [ints_is q]
        rfl
    | none => cases e
    | bool _ => cases e
    | str _ => cases e
    | list _ => cases e
    | tuple _ => cases e
    | dict _ => cases e
theorem lay_all : ∀ ns : List Int, PyData.canLayAll0 (ns.map PyData.int) = true
  | [] => by simp only [List.map_nil, PyData.canLayAll0]
  | n :: ns => by simp only [List.map_cons, PyData.canLayAll0, PyData.canLay0, lay_all ns, Bool.and_self]
theorem rowsD_cons {d : D} {ds : List D} {rs : List Row} (e : rowsD (d :: ds) = some rs) : ∃ r rs', rs = r :: rs' ∧ d = r.d ∧ rowsD ds = some rs' := by
  cases d with
  | tuple xs =>
    have e : (match ints? xs, rowsD ds with
      | some (n :: ns), some rs => some ((n, ns) :: rs)
      | _, _ => none) = some rs := e
    split at e
    · rename_i n ns rs' q1 q2
      have e2 := Option.some.inj e
      refine ⟨(n, ns), rs', e2.symm, ?_, q2⟩
      rw [ints_is q1]
      rfl
    · cases e
  | none => cases e
  | bool _ => cases e
  | str _ => cases e
  | list _ => cases e
  | int _ => cases e
  | dict _ => cases e
section
variable {K : PySem.W.Frag} {xo : XO} {F H : Hp}
theorem rows_at (sb : Same F H) : ∀ {xs : List V} {ds : List D} {rs : List Row}, DenAll K xo F xs ds → rowsD ds = some rs → RowsAt K H xs rs
  | _, _, rs, .nil, e => by
    have e' := Option.some.inj (show some [] = some rs from e)
    subst e'
    exact .nil
  | _, _, rs, .cons h t, e => by
    obtain ⟨r, rs', e1, e2, e3⟩ := rowsD_cons e
    subst e1 e2
    refine .cons ((h.mono sb).dp ?_) (rows_at sb t e3)
    show PyData.canLay0 (.tuple ((r.1 :: r.2).map PyData.int)) = true
    simp only [PyData.canLay0]
    exact lay_all _
theorem rows_each' : ∀ {xs : List V} {ds : List D} {rs : List Row}, DenAll K xo F xs ds → rowsD ds = some rs → (∀ p ∈ xs.zip rs, Den K xo F p.1 (Row.d p.2)) ∧ (xs.zip rs).map (·.2) = rs
  | _, _, rs, .nil, e => by
    have e' := Option.some.inj (show some [] = some rs from e)
    subst e'
    exact ⟨(fun p hp => by simp at hp), rfl⟩
  | _, _, rs, .cons h t, e => by
    obtain ⟨r, rs', e1, e2, e3⟩ := rowsD_cons e
    subst e1 e2
    obtain ⟨k1, k2⟩ := rows_each' t e3
    refine ⟨fun p hp => ?_, ?_⟩
    · rcases List.mem_cons.mp hp with z | z
      · subst z; exact h
      · exact k1 p z
    · rw [List.zip_cons_cons, List.map_cons, k2]
theorem den_pairs : ∀ {L : List (V × Row)}, (∀ p ∈ L, Den K xo F p.1 (Row.d p.2)) → DenAll K xo F (L.map (·.1)) ((L.map (·.2)).map Row.d)
  | [], _ => .nil
  | p :: L, h => .cons (h p List.mem_cons_self) (den_pairs fun q hq => h q (List.mem_cons_of_mem _ hq))
theorem den_rows {xs : List V} {ds : List D} {rs : List Row} (h : DenAll K xo F xs ds) (e : rowsD ds = some rs) : DenAll K xo F (sortRV xs rs) (sortRows rs) := by
  obtain ⟨k1, k2⟩ := rows_each' h e
  have z := den_pairs (L := (xs.zip rs).mergeSort fun p q => rowLe p.2 q.2) fun p hp => k1 p (List.mem_mergeSort.mp hp)
  rw [List.map_mergeSort (r := fun p q : V × Row => rowLe p.2 q.2) (s := rowLe) (f := fun p : V × Row => p.2) fun _ _ _ _ => rfl, k2] at z
  exact z
theorem DenAll.eraseIdx : ∀ {vs : List V} {ds : List D} (n : Nat), DenAll K xo H vs ds → DenAll K xo H (vs.eraseIdx n) (ds.eraseIdx n)
  | _, _, _, .nil => .nil
  | _, _, 0, .cons _ t => t
  | _, _, n + 1, .cons q t => .cons q (DenAll.eraseIdx n t)
end
end DL


set_option Elab.async false
set_option linter.all false
set_option maxRecDepth 100000
set_option maxHeartbeats 1000000
/-! DL3: built-in functions over data. -/
namespace DL
open PySem PySem.Spec PyProof.Rows L2

/-! ### walks over a tuple -/
section
variable {prog : Program} {w : World} {A : Around} {E : Value → Shared → Prop} {s : Shared}
/-- the iterator of a tuple, made -/
theorem iterT {l : Addr} {items : Array Value} {Q : Value → Shared → Prop} (hl : s.heap.IsTuple l items)
    (h : ∀ s2 : Shared, s2 = { s with heap := s.heap.push { cls := .type "tuple_iterator", data := .fields #[.ref l, .int 0 0] } } →
      (s2.heap.IsTupleIter s.heap.objs.size l 0 ∧ s2.heap.IsTuple l items) → (∀ b ∈ [s.heap.objs.size, l], b < s2.heap.objs.size) → l ≠ s.heap.objs.size → Q (.ref s.heap.objs.size) s2) :
    wpAny (model prog w) A (pyIter (.ref l)) Q E s := by
  have hlt : l < s.heap.objs.size := by
    obtain ⟨_, q, _⟩ := id hl
    exact Heap.lt_size q
  refine wpAny_pyIter_tuple hl (h _ rfl ⟨⟨_, Heap.get?_push_size _ rfl, rfl, rfl⟩, hl.push _⟩ ?_ (Nat.ne_of_lt hlt))
  intro b hb
  rw [show ({ s with heap := s.heap.push { cls := .type "tuple_iterator", data := .fields #[.ref l, .int 0 0] } } : Shared).heap.objs.size = s.heap.objs.size + 1 from Heap.size_push ..]
  have hb' : b = s.heap.objs.size ∨ b = l := by simpa using hb
  rcases hb' with z | z
  · rw [z]; exact Nat.lt_succ_self _
  · rw [z]; exact Nat.lt_succ_of_lt hlt
theorem keepT {h h' : Heap} {o : Obj} (hk : ∀ b u, b ∉ [h.objs.size] → (h.push o).get? b = some u → h'.get? b = some u) : ∀ b u, h.get? b = some u → h'.get? b = some u := fun b u q =>
  hk b u (by
    intro hm
    have e : b = h.objs.size := by simpa using hm
    exact absurd (e ▸ Heap.lt_size q) (Nat.lt_irrefl _)) (Heap.get?_push_of_some _ q)
theorem truthInts {bs : List Bool} {its : List Value} (e : ∀ (i : Nat) v, its[i]? = some v → (v = Value.none ∧ bs.getD i false = false) ∨ (∃ b, v = .bool b ∧ bs.getD i false = b) ∨ ∃ i' t, v = .int i' t ∧ bs.getD i false = (i' != 0)) :
    TruthOf prog w A (fun i v => its.toArray[i]? = some v) (fun i => bs.getD i false) := fun i v s Q E hv hq => by
  have hv' : its[i]? = some v := by simpa using hv
  rcases e i v hv' with ⟨rfl, q⟩ | ⟨b, rfl, q⟩ | ⟨i', t, rfl, q⟩
  · have hq' : Q (bs.getD i false) s := hq
    rw [q] at hq'
    exact truthy_none hq'
  · have hq' : Q (bs.getD i false) s := hq
    rw [q] at hq'
    exact wpAny_truthy_bool hq'
  · have hq' : Q (bs.getD i false) s := hq
    rw [q] at hq'
    exact PySem.P.truthy_int hq'
end

/-! ### greatest, least, sorted -/
theorem maxI_mem : ∀ (x : Int) (r : List Int), maxI (x :: r) ∈ x :: r
  | x, [] => List.mem_cons_self
  | x, y :: r => by
    have ih := maxI_mem y r
    show (if maxI (y :: r) < x then x else maxI (y :: r)) ∈ _
    split
    · exact List.mem_cons_self
    · exact List.mem_cons_of_mem _ ih
theorem maxI_le : ∀ (x : Int) (r : List Int), ∀ z ∈ x :: r, z ≤ maxI (x :: r)
  | x, [], z, h => by
    have e : z = x := by simpa using h
    rw [e]
    exact Int.le_refl _
  | x, y :: r, z, h => by
    have ih := maxI_le y r
    show z ≤ (if maxI (y :: r) < x then x else maxI (y :: r))
    rcases List.mem_cons.mp h with e | h
    · split <;> omega
    · have := ih z h
      split <;> omega
theorem minI_mem : ∀ (x : Int) (r : List Int), minI (x :: r) ∈ x :: r
  | x, [] => List.mem_cons_self
  | x, y :: r => by
    have ih := minI_mem y r
    show (if x < minI (y :: r) then x else minI (y :: r)) ∈ _
    split
    · exact List.mem_cons_self
    · exact List.mem_cons_of_mem _ ih
theorem minI_le : ∀ (x : Int) (r : List Int), ∀ z ∈ x :: r, minI (x :: r) ≤ z
  | x, [], z, h => by
    have e : z = x := by simpa using h
    rw [e]
    exact Int.le_refl _
  | x, y :: r, z, h => by
    have ih := minI_le y r
    show (if x < minI (y :: r) then x else minI (y :: r)) ≤ z
    rcases List.mem_cons.mp h with e | h
    · split <;> omega
    · have := ih z h
      split <;> omega
theorem insI_perm (x : Int) : ∀ l : List Int, (insI x l).Perm (x :: l)
  | [] => List.Perm.refl _
  | y :: r => by
    show (if x ≤ y then x :: y :: r else y :: insI x r).Perm _
    split
    · exact List.Perm.refl _
    · exact ((insI_perm x r).cons y).trans (List.Perm.swap x y r)
theorem srtI_perm : ∀ l : List Int, (srtI l).Perm l
  | [] => List.Perm.refl _
  | x :: r => (insI_perm x (srtI r)).trans ((srtI_perm r).cons x)
theorem insI_sorted (x : Int) : ∀ l : List Int, l.Pairwise (· ≤ ·) → (insI x l).Pairwise (· ≤ ·)
  | [], _ => List.pairwise_singleton _ _
  | y :: r, h => by
    obtain ⟨h1, h2⟩ := List.pairwise_cons.mp h
    show (if x ≤ y then x :: y :: r else y :: insI x r).Pairwise (· ≤ ·)
    split
    · rename_i q
      refine List.pairwise_cons.mpr ⟨fun z hz => ?_, h⟩
      rcases List.mem_cons.mp hz with e | hz
      · rw [e]; exact q
      · exact Int.le_trans q (h1 z hz)
    · rename_i q
      refine List.pairwise_cons.mpr ⟨fun z hz => ?_, insI_sorted x r h2⟩
      rcases List.mem_cons.mp ((insI_perm x r).mem_iff.mp hz) with e | hz
      · rw [e]; omega
      · exact h1 z hz
theorem srtI_sorted : ∀ l : List Int, (srtI l).Pairwise (· ≤ ·)
  | [] => .nil
  | x :: r => insI_sorted x _ (srtI_sorted r)
theorem sorted_eq : ∀ {l m : List Int}, l.Perm m → l.Pairwise (· ≤ ·) → m.Pairwise (· ≤ ·) → l = m
  | [], m, p, _, _ => (List.nil_perm.mp p).symm
  | x :: l, [], p, _, _ => absurd p.length_eq (by simp)
  | x :: l, y :: m, p, h, k => by
    obtain ⟨h1, h2⟩ := List.pairwise_cons.mp h
    obtain ⟨k1, k2⟩ := List.pairwise_cons.mp k
    have e : x = y := by
      have a : x ∈ y :: m := p.mem_iff.mp List.mem_cons_self
      have b : y ∈ x :: l := p.mem_iff.mpr List.mem_cons_self
      rcases List.mem_cons.mp a with a | a
      · exact a
      · rcases List.mem_cons.mp b with b | b
        · exact b.symm
        · have := h1 y b
          have := k1 x a
          omega
    subst e
    rw [sorted_eq ((List.perm_cons x).mp p) h2 k2]

/-! ### truths -/
theorem trus_len {K : PySem.W.Frag} {xo : XO} {H : Hp} : ∀ {vs : List V} {ds : List D} {us : List Value} {bs : List Bool}, DenAll K xo H vs ds → Vals vs us → trus? ds = some bs → bs.length = us.length
  | _, _, _, bs, .nil, .nil, e => by
    have e' := Option.some.inj (show some [] = some bs from e)
    rw [← e']
    rfl
  | _, d :: ds, _, bs, .cons h t, .cons r rr, e => by
    have e1 : (match truF d, trus? ds with
      | some b, some bs => some (b :: bs)
      | _, _ => none) = some bs := e
    split at e1
    · rename_i b cs q1 q2
      have e2 := Option.some.inj e1
      rw [← e2]
      show cs.length + 1 = _ + 1
      rw [trus_len t rr q2]
    · cases e1
theorem trus_at {K : PySem.W.Frag} {xo : XO} {H : Hp} : ∀ {vs : List V} {ds : List D} {us : List Value} {bs : List Bool}, DenAll K xo H vs ds → Vals vs us → trus? ds = some bs →
    ∀ (i : Nat) v, us[i]? = some v → (v = Value.none ∧ bs.getD i false = false) ∨ (∃ b, v = .bool b ∧ bs.getD i false = b) ∨ ∃ i' t, v = .int i' t ∧ bs.getD i false = (i' != 0)
  | _, _, _, _, .nil, .nil, _, i, v, hv => by simp at hv
  | _, d :: ds, _, bs, .cons h t, .cons r rr, e, i, v, hv => by
    have e1 : (match truF d, trus? ds with
      | some b, some bs => some (b :: bs)
      | _, _ => none) = some bs := e
    split at e1
    · rename_i b cs q1 q2
      have e2 := Option.some.inj e1
      subst e2
      cases i with
      | zero =>
        have hv' := Option.some.inj (show some _ = some v from hv)
        subst hv'
        show _ ∨ (∃ b', _ ∧ b = b') ∨ ∃ i' t, _ ∧ b = _
        cases h with
        | non => cases r; exact .inl ⟨rfl, (Option.some.inj q1).symm⟩
        | bl b' => cases r; exact .inr (.inl ⟨_, rfl, (Option.some.inj q1).symm⟩)
        | int i' =>
          obtain ⟨t', rfl⟩ := r
          exact .inr (.inr ⟨_, _, rfl, (Option.some.inj q1).symm⟩)
        | str _ => cases q1
        | scr _ _ => cases q1
        | lst _ _ => cases q1
        | tup _ _ => cases q1
        | exc0 _ _ => cases q1
        | exc1 _ _ _ _ => cases q1
        | dic0 _ => cases q1
      | succ i => exact trus_at t rr q2 i v (by simpa using hv)
    · cases e1

/-! ### the calls -/
def biName : Bi → Str
  | .len => "len" | .abs => "abs" | .int => "int" | .all => "all" | .any => "any" | .sum => "sum" | .tuple => "tuple" | .list => "list" | .min => "min" | .max => "max" | .isi _ => "isinstance" | .sorted => "sorted" | .sortp => "sorted" | .stri => "str"
def biVal : Bi → Value
  | .len => .builtin "len" | .abs => .builtin "abs" | .int => .type "int" | .all => .builtin "all" | .any => .builtin "any" | .sum => .builtin "sum" | .tuple => .type "tuple" | .list => .type "list"
  | .min => .builtin "min" | .max => .builtin "max" | .isi _ => .builtin "isinstance" | .sorted => .builtin "sorted" | .sortp => .builtin "sorted" | .stri => .type "str"
theorem bi_boot (f : Bi) : bootBuiltins (biName f) = some (biVal f) := by
  cases f <;> first | decide +kernel | (show bootBuiltins ("isinstance" : Str) = some (Value.builtin "isinstance"); decide +kernel)
def tyStr : Ty → String
  | .int => "int" | .bool => "bool" | .str => "str" | .tuple => "tuple" | .list => "list"
theorem ty_boot (t : Ty) : bootBuiltins (Str.ofString (tyStr t)) = some (.type (tyStr t)) := by cases t <;> decide +kernel
/-- the built-in type of data -/
def tyOfD : D → Option String
  | .none => some "NoneType" | .bool _ => some "bool" | .int _ => some "int" | .str _ => some "str" | .list _ => some "list" | .tuple _ => some "tuple" | .dict [] => some "dict" | .dict (_ :: _) => none

section
variable {X : Cx} {xo : XO} {mg : Str → Option Value} {W : WX}
theorem den_ty {K : PySem.W.Frag} {H : Hp} {v : V} {d : D} {T : String} (h : Den K xo H v d) (e : tyOfD d = some T) : TyX K H v (.type T) := by
  cases h with
  | non => cases e; exact .base .non
  | bl b => cases e; exact .base (.bl b)
  | int i => cases e; exact .base (.int i)
  | str x => cases e; exact .base (.str x)
  | scr _ _ => cases e
  | lst h _ => cases e; exact .base (.lst h)
  | tup h _ =>
    cases e
    rcases h with (h | ⟨o, h⟩) | ⟨o, its, n, hk, hc, _⟩
    · exact .base (.tup h)
    · exact .fTuple h
    · exact .kTuple hk hc
  | exc0 _ _ => cases e
  | exc1 _ _ _ _ => cases e
  | dic0 h => cases e; exact .base (.dK h)
theorem kit_all (t : Ty) (d : D) (T : String) (e : tyOfD d = some T) : kitB T (tyStr t) = some (tyIs t d) := by
  cases d with
  | none => cases e; cases t <;> decide +kernel
  | bool b => cases e; cases t <;> (show kitB _ _ = some _) <;> simp only [tyIs, tyStr] <;> decide +kernel
  | int i => cases e; cases t <;> simp only [tyIs, tyStr] <;> decide +kernel
  | str x => cases e; cases t <;> simp only [tyIs, tyStr] <;> decide +kernel
  | list xs => cases e; cases t <;> simp only [tyIs, tyStr] <;> decide +kernel
  | tuple xs => cases e; cases t <;> simp only [tyIs, tyStr] <;> decide +kernel
  | dict l =>
    cases l with
    | nil => cases e; cases t <;> simp only [tyIs, tyStr] <;> decide +kernel
    | cons _ _ => cases e

theorem ints_vals {K : PySem.W.Frag} {H : Hp} {vs : List V} {ds : List D} {ns : List Int} (h : DenAll K xo H vs ds) (e : ints? ds = some ns) : vs = ns.map V.int := h.ints e
theorem den_ints {K : PySem.W.Frag} {H : Hp} : ∀ ns : List Int, DenAll K xo H (ns.map V.int) (ns.map PyData.int)
  | [] => .nil
  | n :: ns => .cons (.int n) (den_ints ns)
/-- all, any of plain data: over a list or a tuple -/
theorem anyT {Q : VK} {pins : List (Addr × Obj)} {s : Shared} {σ : L2.St} {H F : Hp} {a : Addr} {vs : List V} {ds : List D} {bs : List Bool} (hc : X.calm = true) (I : L2.Inv X pins σ H s) (hs : SqT X.K H a vs) (h : DenAll X.K xo F vs ds) (e : trus? ds = some bs)
    (q : Q (.bl (bs.any id)) H) : wpAny (model X.prog X.w) X.A (PySem.call (.builtin "any") [.ref a]) (EP X pins σ Q) X.xe s := by
  obtain ⟨its, rv, hl, _⟩ := I.tuple hs
  refine call_any_walk (iterT (show s.heap.IsTuple a its.toArray from hl) fun s2 e2 st _ hne => ?_)
  subst e2
  refine ⟨_, _, _, _, _, _, _, rfl, Walks.tuple (A := X.A.in1) (I.ok.hd hc) _ a hne its.toArray, st, truthInts (trus_at h rv e), fun h' tk hk => ?_⟩
  refine ⟨.bl _, H, I.kept (keepT hk), ?_, q⟩
  show Value.bool _ = Value.bool _
  rw [← L2.any_range, trus_len h rv e, List.size_toArray]
theorem allT {Q : VK} {pins : List (Addr × Obj)} {s : Shared} {σ : L2.St} {H F : Hp} {a : Addr} {vs : List V} {ds : List D} {bs : List Bool} (hc : X.calm = true) (I : L2.Inv X pins σ H s) (hs : SqT X.K H a vs) (h : DenAll X.K xo F vs ds) (e : trus? ds = some bs)
    (q : Q (.bl (bs.all id)) H) : wpAny (model X.prog X.w) X.A (PySem.call (.builtin "all") [.ref a]) (EP X pins σ Q) X.xe s := by
  obtain ⟨its, rv, hl, _⟩ := I.tuple hs
  refine call_all_walk (iterT (show s.heap.IsTuple a its.toArray from hl) fun s2 e2 st _ hne => ?_)
  subst e2
  refine ⟨_, _, _, _, _, _, _, rfl, Walks.tuple (A := X.A.in1) (I.ok.hd hc) _ a hne its.toArray, st, truthInts (trus_at h rv e), fun h' tk hk => ?_⟩
  refine ⟨.bl _, H, I.kept (keepT hk), ?_, q⟩
  show Value.bool _ = Value.bool _
  rw [← L2.all_range, trus_len h rv e, List.size_toArray]
theorem anyL {Q : VK} {pins : List (Addr × Obj)} {s : Shared} {σ : L2.St} {H F : Hp} {a : Addr} {vs : List V} {ds : List D} {bs : List Bool} (hc : X.calm = true) (I : L2.Inv X pins σ H s) (hs : SqL X.K H a vs) (h : DenAll X.K xo F vs ds) (e : trus? ds = some bs)
    (q : Q (.bl (bs.any id)) H) : wpAny (model X.prog X.w) X.A (PySem.call (.builtin "any") [.ref a]) (EP X pins σ Q) X.xe s := by
  obtain ⟨its, rv, hl, _⟩ := I.list hs
  refine call_any_walk (iter_any hl.isList fun s2 e2 st hne => ?_)
  subst e2
  refine ⟨_, _, _, _, _, _, _, rfl, Walks.list (A := X.A.in1) (I.ok.hd hc) _ a hne its.toArray, st, truthInts (trus_at h rv e), fun h' tk hk => ?_⟩
  refine ⟨.bl _, H, I.kept (keepT hk), ?_, q⟩
  show Value.bool _ = Value.bool _
  rw [← L2.any_range, trus_len h rv e, List.size_toArray]
theorem allL {Q : VK} {pins : List (Addr × Obj)} {s : Shared} {σ : L2.St} {H F : Hp} {a : Addr} {vs : List V} {ds : List D} {bs : List Bool} (hc : X.calm = true) (I : L2.Inv X pins σ H s) (hs : SqL X.K H a vs) (h : DenAll X.K xo F vs ds) (e : trus? ds = some bs)
    (q : Q (.bl (bs.all id)) H) : wpAny (model X.prog X.w) X.A (PySem.call (.builtin "all") [.ref a]) (EP X pins σ Q) X.xe s := by
  obtain ⟨its, rv, hl, _⟩ := I.list hs
  refine call_all_walk (iter_any hl.isList fun s2 e2 st hne => ?_)
  subst e2
  refine ⟨_, _, _, _, _, _, _, rfl, Walks.list (A := X.A.in1) (I.ok.hd hc) _ a hne its.toArray, st, truthInts (trus_at h rv e), fun h' tk hk => ?_⟩
  refine ⟨.bl _, H, I.kept (keepT hk), ?_, q⟩
  show Value.bool _ = Value.bool _
  rw [← L2.all_range, trus_len h rv e, List.size_toArray]

/-- sum, max, min of a tuple of ints -/
theorem intsT {ns : List Int} {its : List Value} (rv : Vals (ns.map V.int) its) : ∃ xs : Array (Int × Tok), its.toArray = intItems xs ∧ numsOf (intItems xs).toList = ns := by
  obtain ⟨xs, e⟩ := rv.ints.allInts.items
  exact ⟨xs, e, by rw [← e]; exact rv.ints.numsOf⟩
theorem sumT {Q : VK} {pins : List (Addr × Obj)} {s : Shared} {σ : L2.St} {H : Hp} {a : Addr} {ns : List Int} (hc : X.calm = true) (I : L2.Inv X pins σ H s) (hs : SqT X.K H a (ns.map V.int))
    (q : Q (.int ns.sum) H) : wpAny (model X.prog X.w) X.A (PySem.call (.builtin "sum") [.ref a]) (EP X pins σ Q) X.xe s := by
  obtain ⟨its, rv, hl, _⟩ := I.tuple hs
  obtain ⟨xs, e, en⟩ := intsT rv
  replace hl : s.heap.IsTuple a (intItems xs) := by rw [← e]; exact hl
  refine call_sum_walkG (iterT hl fun s2 e2 st hfp hne => ?_)
  subst e2
  refine ⟨_, _, _, _, _, _, numAt xs, rfl, Walks.tuple (A := X.A.in1) (I.ok.hd hc) _ a hne (intItems xs), st, hfp, (fun _ _ => intItems_at), fun h' tk t' hk => ?_⟩
  refine ⟨.int ns.sum, H, I.kept (keepT hk), ⟨t', ?_⟩, q⟩
  have en' := en
  rw [nums_intItems] at en'
  rw [show (intItems xs).size = xs.size by simp [intItems], preSum_eq, List.take_of_length_le (by simp), en']
theorem maxT {Q : VK} {pins : List (Addr × Obj)} {s : Shared} {σ : L2.St} {H : Hp} {a : Addr} {x : Int} {r : List Int} (hc : X.calm = true) (I : L2.Inv X pins σ H s) (hs : SqT X.K H a ((x :: r).map V.int))
    (q : Q (.int (maxI (x :: r))) H) : wpAny (model X.prog X.w) X.A (PySem.call (.builtin "max") [.ref a]) (EP X pins σ Q) X.xe s := by
  obtain ⟨its, rv, hl, _⟩ := I.tuple hs
  obtain ⟨xs, e, en⟩ := intsT rv
  replace hl : s.heap.IsTuple a (intItems xs) := by rw [← e]; exact hl
  have en' := en
  rw [nums_intItems] at en'
  have hsz : 0 < xs.size := by
    have := congrArg List.length en'
    simp at this
    omega
  refine call_max_walk (iterT hl fun s2 e2 st hfp hne => ?_)
  subst e2
  refine ⟨_, _, _, _, _, _, _, rfl, Walks.tuple (A := X.A.in1) (I.ok.hd hc) _ a hne (intItems xs), st, hfp, by simpa [intItems] using hsz, CmpOf.ints_gt (numAt xs) (fun _ _ => intItems_at), fun v h' tk hP hk => ?_⟩
  obtain ⟨t, rfl⟩ := intItems_at hP
  obtain ⟨h1, h2⟩ := argBest_gt (numAt xs) ((intItems xs).size - 1)
  refine ⟨.int (maxI (x :: r)), H, I.kept (keepT hk), ⟨t, ?_⟩, q⟩
  have hm : numAt xs (argBest (fun i j => decide (numAt xs i > numAt xs j)) ((intItems xs).size - 1)) ∈ x :: r := by
    rw [← en', numAt_eq]
    exact PySem.getD_mem (by rw [List.length_map, Array.length_toList]; have : (intItems xs).size = xs.size := by simp [intItems]
                             omega)
  have hb : ∀ z ∈ x :: r, z ≤ numAt xs (argBest (fun i j => decide (numAt xs i > numAt xs j)) ((intItems xs).size - 1)) := fun z hz => by
    rw [← en'] at hz
    obtain ⟨j, hj, rfl⟩ := mem_getD hz
    rw [List.length_map, Array.length_toList] at hj
    rw [← numAt_eq]
    exact h2 j (by have : (intItems xs).size = xs.size := by simp [intItems]
                   omega)
  rw [Int.le_antisymm (maxI_le x r _ hm) (hb _ (maxI_mem x r))]
theorem minT {Q : VK} {pins : List (Addr × Obj)} {s : Shared} {σ : L2.St} {H : Hp} {a : Addr} {x : Int} {r : List Int} (hc : X.calm = true) (I : L2.Inv X pins σ H s) (hs : SqT X.K H a ((x :: r).map V.int))
    (q : Q (.int (minI (x :: r))) H) : wpAny (model X.prog X.w) X.A (PySem.call (.builtin "min") [.ref a]) (EP X pins σ Q) X.xe s := by
  obtain ⟨its, rv, hl, _⟩ := I.tuple hs
  obtain ⟨xs, e, en⟩ := intsT rv
  replace hl : s.heap.IsTuple a (intItems xs) := by rw [← e]; exact hl
  have en' := en
  rw [nums_intItems] at en'
  have hsz : 0 < xs.size := by
    have := congrArg List.length en'
    simp at this
    omega
  refine call_min_walk (iterT hl fun s2 e2 st hfp hne => ?_)
  subst e2
  refine ⟨_, _, _, _, _, _, _, rfl, Walks.tuple (A := X.A.in1) (I.ok.hd hc) _ a hne (intItems xs), st, hfp, by simpa [intItems] using hsz, CmpOf.ints_lt (numAt xs) (fun _ _ => intItems_at), fun v h' tk hP hk => ?_⟩
  obtain ⟨t, rfl⟩ := intItems_at hP
  obtain ⟨h1, h2⟩ := argBest_lt (numAt xs) ((intItems xs).size - 1)
  refine ⟨.int (minI (x :: r)), H, I.kept (keepT hk), ⟨t, ?_⟩, q⟩
  have hm : numAt xs (argBest (fun i j => decide (numAt xs i < numAt xs j)) ((intItems xs).size - 1)) ∈ x :: r := by
    rw [← en', numAt_eq]
    exact PySem.getD_mem (by rw [List.length_map, Array.length_toList]; have : (intItems xs).size = xs.size := by simp [intItems]
                             omega)
  have hb : ∀ z ∈ x :: r, numAt xs (argBest (fun i j => decide (numAt xs i < numAt xs j)) ((intItems xs).size - 1)) ≤ z := fun z hz => by
    rw [← en'] at hz
    obtain ⟨j, hj, rfl⟩ := mem_getD hz
    rw [List.length_map, Array.length_toList] at hj
    rw [← numAt_eq]
    exact h2 j (by have : (intItems xs).size = xs.size := by simp [intItems]
                   omega)
  rw [Int.le_antisymm (hb _ (minI_mem x r)) (minI_le x r _ hm)]

theorem bi_ok (hc : X.calm = true) (hu : X.A.units + 65 < cLine) (f : Bi) (hf : ∀ t, f ≠ .isi t) : CallR X (biVal f) (rBi X.K xo mg W f) := by
  intro pins s σ H xs us Q I rv h
  obtain ⟨B, F, σ', e, ds, dv, r, hd, hb, post⟩ := h
  unfold bi at hb
  split at hb
  · -- len of a list
    cases hd with
    | cons h1 t =>
      cases t
      cases h1 with
      | lst h2 a2 =>
        have z := Option.some.inj hb
        subst z
        refine call_len_seq pins s σ H _ us Q I rv ⟨_, _, rfl, .inl (.inl (.inl (r.sub _ _ h2))), ?_⟩
        rw [a2.length]
        exact post_val r post (.int _)
  · cases hd with
    | cons h1 t =>
      cases t
      cases h1 with
      | tup h2 a2 =>
        have z := Option.some.inj hb
        subst z
        refine call_len_seq pins s σ H _ us Q I rv ⟨_, _, rfl, .inr (sqt_mono r.sub h2), ?_⟩
        rw [a2.length]
        exact post_val r post (.int _)
  · cases hd with
    | cons h1 t =>
      cases t
      cases h1 with
      | scr h2 a2 =>
        have z := Option.some.inj hb
        subst z
        refine call_len_seq pins s σ H _ us Q I rv ⟨_, _, rfl, .inl (r.sub.seq h2), ?_⟩
        rw [a2.length]
        exact post_val r post (.int _)
  · split at hb
    · rename_i hl
      cases hd with
      | cons h1 t =>
        cases t
        cases h1
        have z := Option.some.inj hb
        subst z
        exact call_len_str pins s σ H _ us Q I rv ⟨_, rfl, lim_line hl, post_val r post (.int _)⟩
    · cases hb
  · cases hd with
    | cons h1 t =>
      cases t
      cases h1
      have z := Option.some.inj hb
      subst z
      exact call_abs pins s σ H _ us Q I rv ⟨_, rfl, post_val r post (.int _)⟩
  · cases hd with
    | cons h1 t =>
      cases t
      cases h1
      have z := Option.some.inj hb
      subst z
      exact call_int1 pins s σ H _ us Q I rv (.inl ⟨_, rfl, post_val r post (.int _)⟩)
  · cases hd with
    | cons h1 t =>
      cases t
      cases h1
      have z := Option.some.inj hb
      subst z
      exact call_int1 pins s σ H _ us Q I rv (.inr ⟨_, rfl, post_val r post (.int _)⟩)
  · obtain ⟨bs, eb, z⟩ := Option.map_eq_some_iff.mp hb
    subst z
    cases hd with
    | cons h1 t =>
      cases t
      cases h1 with
      | lst h2 a2 =>
        rw [Vals.ref1 rv]
        exact allL hc I (.inl (.inl (r.sub _ _ h2))) a2 eb (post_val r post (.bl _))
  · obtain ⟨bs, eb, z⟩ := Option.map_eq_some_iff.mp hb
    subst z
    cases hd with
    | cons h1 t =>
      cases t
      cases h1 with
      | lst h2 a2 =>
        rw [Vals.ref1 rv]
        exact anyL hc I (.inl (.inl (r.sub _ _ h2))) a2 eb (post_val r post (.bl _))
  · obtain ⟨bs, eb, z⟩ := Option.map_eq_some_iff.mp hb
    subst z
    cases hd with
    | cons h1 t =>
      cases t
      cases h1 with
      | tup h2 a2 =>
        rw [Vals.ref1 rv]
        exact allT hc I (sqt_mono r.sub h2) a2 eb (post_val r post (.bl _))
  · obtain ⟨bs, eb, z⟩ := Option.map_eq_some_iff.mp hb
    subst z
    cases hd with
    | cons h1 t =>
      cases t
      cases h1 with
      | tup h2 a2 =>
        rw [Vals.ref1 rv]
        exact anyT hc I (sqt_mono r.sub h2) a2 eb (post_val r post (.bl _))
  · obtain ⟨ns, eb, z⟩ := Option.map_eq_some_iff.mp hb
    subst z
    cases hd with
    | cons h1 t =>
      cases t
      cases h1 with
      | lst h2 a2 =>
        have ev := a2.ints eb
        subst ev
        exact cr_sum hc pins s σ H _ us Q I rv ⟨_, _, rfl, .inl (.inl (r.sub _ _ h2)), post_val r post (.int _)⟩
  · obtain ⟨ns, eb, z⟩ := Option.map_eq_some_iff.mp hb
    subst z
    cases hd with
    | cons h1 t =>
      cases t
      cases h1 with
      | tup h2 a2 =>
        have ev := a2.ints eb
        subst ev
        rw [Vals.ref1 rv]
        exact sumT hc I (sqt_mono r.sub h2) (post_val r post (.int _))
  · cases hd with
    | cons h1 t =>
      cases t
      cases h1 with
      | lst h2 a2 =>
        have z := Option.some.inj hb
        subst z
        exact call_tuple_of pins s σ H _ us Q I rv ⟨_, _, rfl, .inl ⟨.inl (.inl (r.sub _ _ h2)), post_tup r post a2⟩⟩
  · cases hd with
    | cons h1 t =>
      cases t
      cases h1 with
      | tup h2 a2 =>
        have z := Option.some.inj hb
        subst z
        exact call_tuple_of pins s σ H _ us Q I rv ⟨_, _, rfl, .inr ⟨sqt_mono r.sub h2, post_val r post (.tup h2 a2)⟩⟩
  · cases hd with
    | cons h1 t =>
      cases t
      cases h1 with
      | lst h2 a2 =>
        have z := Option.some.inj hb
        subst z
        exact call_list_of pins s σ H _ us Q I rv ⟨_, _, rfl, .inl (.inl (.inl (r.sub _ _ h2))), post_lst r post a2⟩
  · cases hd with
    | cons h1 t =>
      cases t
      cases h1 with
      | tup h2 a2 =>
        have z := Option.some.inj hb
        subst z
        exact call_list_of pins s σ H _ us Q I rv ⟨_, _, rfl, .inr (sqt_mono r.sub h2), post_lst r post a2⟩
  · cases hd with
    | cons h1 t =>
      cases h1
      cases t with
      | cons h2 t =>
        cases t
        cases h2
        have z := Option.some.inj hb
        subst z
        exact call_min2 hc pins s σ H _ us Q I rv ⟨_, _, rfl, post_val r post (.int _)⟩
  · cases hd with
    | cons h1 t =>
      cases h1
      cases t with
      | cons h2 t =>
        cases t
        cases h2
        have z := Option.some.inj hb
        subst z
        exact call_max2 hc pins s σ H _ us Q I rv ⟨_, _, rfl, post_val r post (.int _)⟩
  · split at hb
    · rename_i x0 r0 eb
      have z := Option.some.inj hb
      subst z
      cases hd with
      | cons h1 t =>
        cases t
        cases h1 with
        | lst h2 a2 =>
          have ev := a2.ints eb
          subst ev
          refine cr_max hc pins s σ H _ us Q I rv ⟨_, _, rfl, .inl (.inl (r.sub _ _ h2)), by simp, fun m hm hb' => ?_⟩
          rw [Int.le_antisymm (maxI_le x0 r0 m hm) (hb' _ (maxI_mem x0 r0))]
          exact post_val r post (.int _)
    · cases hb
  · split at hb
    · rename_i x0 r0 eb
      have z := Option.some.inj hb
      subst z
      cases hd with
      | cons h1 t =>
        cases t
        cases h1 with
        | lst h2 a2 =>
          have ev := a2.ints eb
          subst ev
          refine cr_min hc pins s σ H _ us Q I rv ⟨_, _, rfl, .inl (.inl (r.sub _ _ h2)), by simp, fun m hm hb' => ?_⟩
          rw [Int.le_antisymm (hb' _ (minI_mem x0 r0)) (minI_le x0 r0 m hm)]
          exact post_val r post (.int _)
    · cases hb
  · split at hb
    · rename_i x0 r0 eb
      have z := Option.some.inj hb
      subst z
      cases hd with
      | cons h1 t =>
        cases t
        cases h1 with
        | tup h2 a2 =>
          have ev := a2.ints eb
          subst ev
          rw [Vals.ref1 rv]
          exact maxT hc I (sqt_mono r.sub h2) (post_val r post (.int _))
    · cases hb
  · split at hb
    · rename_i x0 r0 eb
      have z := Option.some.inj hb
      subst z
      cases hd with
      | cons h1 t =>
        cases t
        cases h1 with
        | tup h2 a2 =>
          have ev := a2.ints eb
          subst ev
          rw [Vals.ref1 rv]
          exact minT hc I (sqt_mono r.sub h2) (post_val r post (.int _))
    · cases hb
  · exact absurd rfl (hf _)
  · exact absurd rfl (hf _)
  · exact absurd rfl (hf _)
  · obtain ⟨ns, eb, z⟩ := Option.map_eq_some_iff.mp hb
    subst z
    cases hd with
    | cons h1 t =>
      cases t
      cases h1 with
      | lst h2 a2 =>
        have ev := a2.ints eb
        subst ev
        refine cr_sortedI pins s σ H _ us Q I rv ⟨_, ns, rfl, .inl (.inl (r.sub _ _ h2)), fun ns' p pm ps hp => ?_⟩
        rw [sorted_eq (pm.trans (srtI_perm ns).symm) ps (srtI_sorted ns)]
        exact post_lst r post (den_ints _) p hp
  · obtain ⟨rs, eb, z⟩ := Option.map_eq_some_iff.mp hb
    subst z
    cases hd with
    | cons h1 t =>
      cases t
      cases h1 with
      | lst h2 a2 => exact cr_sortedRows hu pins s σ H _ us Q I rv ⟨_, _, rs, rfl, .inl (.inl (r.sub _ _ h2)), rows_at r.sub a2 eb, fun p hp => post_lst r post (den_rows a2 eb) p hp⟩
  · split at hb
    · rename_i hl
      cases hd with
      | cons h1 t =>
        cases t
        cases h1
        have z := Option.some.inj hb
        subst z
        exact call_str_int pins s σ H _ us Q I rv ⟨_, rfl, hl, post_val r post (.str _)⟩
    · cases hb
  · cases hb
theorem isi_ok (t : Ty) : CallR X (.builtin "isinstance") (fun vs H Q => ∃ (F : Hp) (v : V) (d : D) (b : D), vs = [v, .ty (tyStr t)] ∧ Same F H ∧ Den X.K xo F v d ∧ bi (.isi t) [d] = some (.d b) ∧ (∃ k, b = .bool k ∧ Q (.bl k) H)) := by
  intro pins s σ H xs us Q I rv h
  obtain ⟨F, v, d, b, rfl, sb, hd, hb, k, rfl, q⟩ := h
  cases e : tyOfD d with
  | none =>
    cases d with
    | dict l => cases l with
      | nil => cases e
      | cons _ _ => exact absurd hb (by simp [bi])
    | _ => cases e
  | some T =>
    have e2 : tyIs t d = k := by
      have h2 : some (DV.d (.bool (tyIs t d))) = some (DV.d (.bool k)) := by
        cases d with
      | dict l => cases l with
        | nil => rw [show tyIs t (.dict []) = false by cases t <;> rfl]; exact hb
        | cons _ _ => cases e
      | _ => exact hb
      injection h2 with h2
      injection h2 with h2
      injection h2
    refine call_isi pins s σ H _ us Q I rv ⟨v, _, .type T, .type (tyStr t), k, rfl, .ty _, den_ty (hd.mono sb) e, ?_, q⟩
    rw [← e2]
    exact kit_ty (kit_all t d T e)
end
end DL


set_option Elab.async false
set_option linter.all false
set_option maxRecDepth 100000
set_option maxHeartbeats 2000000
/-! DL4: zip of two or three lists or tuples, strict or not. -/
namespace DL
open PySem PySem.Spec PyProof.Rows L2
open PySem.Builtin.SmallTypes (nextOf nextOrEnd)

/-- an iterator of a tuple (true) or a list -/
def SIt (h : Heap) (t : Bool) (it a : Addr) (i : Nat) : Prop := if t = true then h.IsTupleIter it a i else h.IsListIter it a i
def SOb (h : Heap) (t : Bool) (a : Addr) (items : Array Value) : Prop := if t = true then h.IsTuple a items else h.IsList a items
def itCls (t : Bool) : String := if t then "tuple_iterator" else "list_iterator"
theorem SIt.at {h h' : Heap} {t : Bool} {it a : Addr} {i : Nat} (x : SIt h t it a i) (k : ∀ o, h.get? it = some o → h'.get? it = some o) : SIt h' t it a i := by
  cases t
  · exact Heap.IsListIter.at (h := h) (show h.IsListIter it a i from x) k
  · exact Heap.IsTupleIter.at (h := h) (show h.IsTupleIter it a i from x) k
theorem SOb.at {h h' : Heap} {t : Bool} {a : Addr} {its : Array Value} (x : SOb h t a its) (k : ∀ o, h.get? a = some o → h'.get? a = some o) : SOb h' t a its := by
  cases t
  · exact Heap.IsList.at (h := h) (show h.IsList a its from x) k
  · obtain ⟨o, ho, r⟩ := (show h.IsTuple a its from x)
    exact ⟨o, k _ ho, r⟩
theorem SIt.lt {h : Heap} {t : Bool} {it a : Addr} {i : Nat} (x : SIt h t it a i) : it < h.objs.size := by
  cases t
  · obtain ⟨o, ho, _⟩ := (show h.IsListIter it a i from x)
    exact Heap.lt_size ho
  · obtain ⟨o, ho, _⟩ := (show h.IsTupleIter it a i from x)
    exact Heap.lt_size ho
theorem SIt.obj {h : Heap} {t : Bool} {it a : Addr} {i : Nat} (x : SIt h t it a i) : ∃ o, h.get? it = some o ∧ ∀ v, o.data ≠ .cell v := by
  cases t
  · obtain ⟨o, ho, _, d⟩ := (show h.IsListIter it a i from x)
    exact ⟨o, ho, fun v z => by rw [d] at z; cases z⟩
  · obtain ⟨o, ho, _, d⟩ := (show h.IsTupleIter it a i from x)
    exact ⟨o, ho, fun v z => by rw [d] at z; cases z⟩

section
variable {prog : Program} {w : World} {A : Around} {E : Value → Shared → Prop} {s : Shared} {t : Bool} {it l : Addr} {i : Nat} {items : Array Value}
theorem nextS {x : Value} {Q : Value → Shared → Prop} (hit : SIt s.heap t it l i) (hl : SOb s.heap t l items) (hx : items[i]? = some x)
    (hQ : ∀ h', SIt h' t it l (i + 1) → Heap.SameBut it s.heap h' → Q x { s with heap := h' }) : wpAny (model prog w) A (nextOf (.ref it)) Q E s := by
  cases t
  · exact wpAny_nextOf_list_item hit hl hx fun h' a b => hQ h' a b
  · exact RZ.nextOf_tuple_item hit hl hx fun h' a b => hQ h' a b
theorem nextE {Q : Value → Shared → Prop} (hh : A.handled = none) (hit : SIt s.heap t it l i) (hl : SOb s.heap t l items) (hx : items[i]? = none)
    (hE : ∀ h' e, Heap.ExtBut it s.heap h' → (∃ o, h'.get? e = some o ∧ o.cls = .type "StopIteration") → E (.ref e) { s with heap := h' }) : wpAny (model prog w) A (nextOf (.ref it)) Q E s := by
  cases t
  · exact wpAny_nextOf_list_end hh hit hl hx hE
  · exact RZ.nextOf_tuple_end hh hit hl hx hE
theorem nextS' {x : Value} {Q : Option Value → Shared → Prop} (hit : SIt s.heap t it l i) (hl : SOb s.heap t l items) (hx : items[i]? = some x)
    (hQ : ∀ h', SIt h' t it l (i + 1) → Heap.SameBut it s.heap h' → Q (some x) { s with heap := h' }) : wpAny (model prog w) A (nextOrEnd (.ref it)) Q E s := by
  unfold Builtin.SmallTypes.nextOrEnd
  exact wpAny_bind (wpAny_attempt (nextS hit hl hx fun h' a b => wpAny_pure (hQ h' a b)))
theorem nextE' {Q : Option Value → Shared → Prop} (hh : A.handled = none) (hit : SIt s.heap t it l i) (hl : SOb s.heap t l items) (hx : items[i]? = none)
    (hQ : ∀ h', Heap.ExtBut it s.heap h' → Q none { s with heap := h' }) : wpAny (model prog w) A (nextOrEnd (.ref it)) Q E s := by
  unfold Builtin.SmallTypes.nextOrEnd
  refine wpAny_bind (wpAny_attempt (nextE hh hit hl hx fun h' e k ho => ?_))
  obtain ⟨o, ho, hc⟩ := ho
  exact wpAny_bind (wpAny_isInstance (T := "StopIteration") (b := true) ⟨o, ho, hc⟩ isSubtype_stop (wpAny_pure (hQ h' k)))
theorem stopS {α : Type} {Q : α → Shared → Prop} (hh : A.handled = none)
    (hE : ∀ h' e, (∀ b o, s.heap.get? b = some o → h'.get? b = some o) → (∃ o, h'.get? e = some o ∧ o.cls = .type "StopIteration") → E (.ref e) { s with heap := h' }) :
    wpAny (model prog w) A (Builtin.SmallTypes.stopIteration : Sem α) Q E s := by
  unfold Builtin.SmallTypes.stopIteration
  refine wpAny_bind ?_
  simp only [newExc, newTuple]
  refine wpAny_bind (wpAny_newObj_type ?_ (by size_fits))
  refine wpAny_bind (m := firstArgMember _ _) (wpAny_of_eq (a := Value.none) (by first | rfl | (simp only [firstArgMember]; rfl)) ?_)
  refine wpAny_newObj_type ?_ (by size_fits)
  simp only [raiseNew]
  refine wpAny_bind (wpAny_handled ?_)
  rw [hh]
  refine wpAny_bind (wpAny_pure (wpAny_throw (hE _ _ (fun b o q => Heap.get?_push_of_some _ (Heap.get?_push_of_some _ q)) ⟨_, Heap.get?_push_size _ rfl, rfl⟩)))
end
section
variable {prog : Program} {w : World} {A : Around} {E : Value → Shared → Prop} {s : Shared}
theorem objInitKw {T newId : String} {self : Value} {rest : List Value} {kw : List (Str × Value)} (hl : typeLookup (.type T) "__init__" = pure (some (.builtin "object.__init__")))
    (hm : Bind.madeBy (.type T) = pure (some newId)) (hne : (some newId != some "object.__new__") = true) :
    Meets (Builtin.«object.__init__» ⟨self :: rest, kw⟩) (fun _ R s => s.TypeIs self T ∧ R (.ok (.ret .none)) s) := by
  refine Meets.of_wp fun prog w A R s hs => ?_
  obtain ⟨hT, hq⟩ := hs
  cases rest with
  | nil =>
    cases kw with
    | nil => exact wpAny_pure ⟨_, rfl, hq⟩
    | cons k ks =>
      repeat (any_goals (first | assumption | wp_step))
      exact ⟨_, rfl, hq⟩
  | cons a rest =>
    repeat (any_goals (first | assumption | wp_step))
    exact ⟨_, rfl, hq⟩
theorem callZip {args : List Value} {kw : List (Str × Value)} {S : PySem.Spec} {Q : Value → Shared → Prop}
    (hct : checkTypeCall "zip" ⟨args, kw⟩ = pure ()) (hcn : checkBuiltinCall "zip.__new__" ⟨.type "zip" :: args, kw⟩ = pure ())
    (hok : ∀ obj, argsOk "object.__init__" ⟨obj :: args, kw⟩) (g : Meets (Builtin.«zip.__new__» ⟨.type "zip" :: args, kw⟩) S)
    (h : S A.in1 (wants (fun obj s1 => s1.TypeIs obj "zip" ∧ Q obj s1) E) s) : wpAny (model prog w) A (call (.type "zip") args kw) Q E s := by
  have ft := F.called_zip
  obtain ⟨c, tl, hmro⟩ := ft.mro
  have hmade := ft.made
  have hsub := ft.sub
  refine wpAny_call (codeAny_of_tree ?_)
  refine (show wpAny _ _ (callAny (.type "zip") _) _ _ _ from ?_)
  refine wpAny_pure ⟨Code.quiet_builtin _ (by decide +kernel), codeAny_builtin F.entry_type_call ?_⟩
  rw [Around.under_plain (weight_type_call_type "zip" args kw) (units_type_call_type "zip" args kw)]
  have h1 := ft.notType
  have h2 := ft.canCreate
  repeat (any_goals (first | assumption | wp_step))
  refine codeAny_mono (codeAny_call_builtin ft.plain F.entry_zip_new (wpAny_of_eq hcn (g prog w A.in1 _ s h))) fun r s1 hr => ?_
  cases r with
  | error e => exact hr
  | ok fl =>
    cases fl with
    | ret obj =>
      obtain ⟨hT, hq⟩ := hr
      have hli := ft.init.lookup
      have hbi := ft.init.bind obj
      repeat (any_goals (first | assumption | wp_step))
      refine codeAny_mono (codeAny_call_builtin ft.init.plain F.entry_object_init (ft.init.check _ _ _ _ _ _ _ _ hT (hok obj)
        (objInitKw ft.init.lookup ft.made (by decide) prog w A.in1 (wants (fun r s2 => r = .none ∧ Q obj s2) E) s1 ⟨hT, rfl, hq⟩))) fun r2 s2 hr2 => ?_
      cases r2 with
      | error e => exact hr2
      | ok fl2 =>
        cases fl2 with
        | ret r =>
          obtain ⟨rfl, hq⟩ := hr2
          repeat (any_goals (first | assumption | wp_step))
        | _ => exact hr2.elim
    | _ => exact hr.elim
end

/-! ### the facts of zip's call -/
abbrev kwS (st : Bool) : List (Str × Value) := if st = true then [("strict", .bool true)] else []
theorem zct2 (st : Bool) (a b : Value) : checkTypeCall "zip" ⟨[a, b], kwS st⟩ = pure () := by cases st <;> kernel_rfl
theorem zcn2 (st : Bool) (a b : Value) : checkBuiltinCall "zip.__new__" ⟨[.type "zip", a, b], kwS st⟩ = pure () := by cases st <;> kernel_rfl
theorem zct3 (st : Bool) (a b c : Value) : checkTypeCall "zip" ⟨[a, b, c], kwS st⟩ = pure () := by cases st <;> kernel_rfl
theorem zcn3 (st : Bool) (a b c : Value) : checkBuiltinCall "zip.__new__" ⟨[.type "zip", a, b, c], kwS st⟩ = pure () := by cases st <;> kernel_rfl
theorem zai (st : Bool) (xs : List Value) (h : xs.length = 3 ∨ xs.length = 4) : argsOk "object.__init__" ⟨xs, kwS st⟩ := by
  match xs, h with
  | [a, b, c], _ =>
    cases st <;> (unfold argsOk; rw [signature?_of (id := "object.__init__") (n := ['_', '_', 'i', 'n', 'i', 't', '_', '_'].reverse) (o := "object".toList.reverse) (by kernel_rfl) F.owner_object]; kernel_rfl)
  | [a, b, c, d], _ =>
    cases st <;> (unfold argsOk; rw [signature?_of (id := "object.__init__") (n := ['_', '_', 'i', 'n', 'i', 't', '_', '_'].reverse) (o := "object".toList.reverse) (by kernel_rfl) F.owner_object]; kernel_rfl)
end DL


set_option Elab.async false
set_option linter.all false
set_option maxRecDepth 100000
set_option maxHeartbeats 2000000
namespace DL
open PySem PySem.Spec PyProof.Rows L2
open PySem.Builtin.SmallTypes (nextOf nextOrEnd)

abbrev ZipO (h : Heap) (z TI TO : Addr) (f0 : Value) (st : Bool) : Prop :=
  h.get? z = some { cls := .type "zip", dict := none, data := .fields #[f0, .bool false, .bool st, .ref TI, .ref TO], slots := #[] }
abbrev TupO (h : Heap) (T : Addr) (xs : Array Value) : Prop := h.get? T = some { cls := .type "tuple", data := .seq xs }
section
variable {prog : Program} {w : World} {A : Around} {E : Value → Shared → Prop} {s : Shared}
theorem iterS {t : Bool} {l : Addr} {items : Array Value} {Q : Value → Shared → Prop} (hl : SOb s.heap t l items)
    (h : Q (.ref s.heap.objs.size) { s with heap := s.heap.push { cls := .type (itCls t), data := .fields #[.ref l, .int 0 0] } }) : wpAny (model prog w) A (pyIter (.ref l)) Q E s := by
  cases t
  · exact wpAny_pyIter_list hl h
  · exact wpAny_pyIter_tuple hl h
theorem SIt.new {h : Heap} {t : Bool} {it l : Addr} (e : h.get? it = some { cls := .type (itCls t), data := .fields #[.ref l, .int 0 0] }) : SIt h t it l 0 := by
  cases t
  · exact ⟨_, e, rfl, rfl⟩
  · exact ⟨_, e, rfl, rfl⟩
theorem SOb.push {h : Heap} {t : Bool} {l : Addr} {items : Array Value} (hl : SOb h t l items) (o : Obj) : SOb (h.push o) t l items := hl.at fun _ q => Heap.get?_push_of_some _ q

/-- an iterator's record, as it is made -/
abbrev itO (t : Bool) (l : Addr) : Obj := { cls := .type (itCls t), data := .fields #[.ref l, .int 0 0] }
abbrev tuO (xs : Array Value) : Obj := { cls := .type "tuple", data := .seq xs }
theorem zipFin2 {R : Value → Heap → Prop} (hp : Heap) (st t1 t2 : Bool) (l1 l2 : Addr)
    (h : ∀ h', ZipO h' (hp.objs.size + 4) (hp.objs.size + 2) (hp.objs.size + 3) .none st → TupO h' (hp.objs.size + 2) #[.ref hp.objs.size, .ref (hp.objs.size + 1)] → TupO h' (hp.objs.size + 3) #[.none, .none] →
        SIt h' t1 hp.objs.size l1 0 → SIt h' t2 (hp.objs.size + 1) l2 0 → h'.objs.size = hp.objs.size + 5 → (∀ b o, hp.get? b = some o → h'.get? b = some o) → R (.ref (hp.objs.size + 4)) h') :
    R (.ref ((((hp.push (itO t1 l1)).push (itO t2 l2)).push (tuO #[.ref hp.objs.size, .ref (hp.push (itO t1 l1)).objs.size])).push (tuO #[.none, .none])).objs.size)
      (((((hp.push (itO t1 l1)).push (itO t2 l2)).push (tuO #[.ref hp.objs.size, .ref (hp.push (itO t1 l1)).objs.size])).push (tuO #[.none, .none])).push
        { cls := .type "zip", data := .fields #[.none, .bool false, .bool st, .ref ((hp.push (itO t1 l1)).push (itO t2 l2)).objs.size,
          .ref (((hp.push (itO t1 l1)).push (itO t2 l2)).push (tuO #[.ref hp.objs.size, .ref (hp.push (itO t1 l1)).objs.size])).objs.size] }) := by
  have z1 : (hp.push (itO t1 l1)).objs.size = hp.objs.size + 1 := Heap.size_push ..
  have z2 : ((hp.push (itO t1 l1)).push (itO t2 l2)).objs.size = hp.objs.size + 2 := by rw [Heap.size_push, z1]
  have z3 : (((hp.push (itO t1 l1)).push (itO t2 l2)).push (tuO #[.ref hp.objs.size, .ref (hp.push (itO t1 l1)).objs.size])).objs.size = hp.objs.size + 3 := by rw [Heap.size_push, z2]
  have z4 : ((((hp.push (itO t1 l1)).push (itO t2 l2)).push (tuO #[.ref hp.objs.size, .ref (hp.push (itO t1 l1)).objs.size])).push (tuO #[.none, .none])).objs.size = hp.objs.size + 4 := by rw [Heap.size_push, z3]
  rw [z4, z3, z2]
  have up : ∀ {h : Heap} {o u : Obj} {b : Addr}, h.get? b = some u → (h.push o).get? b = some u := fun q => Heap.get?_push_of_some _ q
  refine h _ ?_ ?_ ?_ (SIt.new ?_) (SIt.new ?_) ?_ fun b o q => up (up (up (up (up q))))
  · rw [ZipO, ← z4]; exact Heap.get?_push_size _ rfl
  · rw [TupO, ← z2, ← z1]; exact up (up (Heap.get?_push_size _ rfl))
  · rw [TupO, ← z3]; exact up (Heap.get?_push_size _ rfl)
  · exact up (up (up (up (Heap.get?_push_size _ rfl))))
  · rw [← z1]; exact up (up (up (Heap.get?_push_size _ rfl)))
  · rw [Heap.size_push, z4]
theorem zipNew2 (st t1 t2 : Bool) (l1 l2 : Addr) (xs ys : Array Value) :
    Meets (Builtin.«zip.__new__» ⟨[.type "zip", .ref l1, .ref l2], kwS st⟩) (fun _ R s => SOb s.heap t1 l1 xs ∧ SOb s.heap t2 l2 ys ∧
      ∀ h', ZipO h' (s.heap.objs.size + 4) (s.heap.objs.size + 2) (s.heap.objs.size + 3) .none st → TupO h' (s.heap.objs.size + 2) #[.ref s.heap.objs.size, .ref (s.heap.objs.size + 1)] → TupO h' (s.heap.objs.size + 3) #[.none, .none] →
        SIt h' t1 s.heap.objs.size l1 0 → SIt h' t2 (s.heap.objs.size + 1) l2 0 → h'.objs.size = s.heap.objs.size + 5 → (∀ b o, s.heap.get? b = some o → h'.get? b = some o) →
        R (.ok (.ret (.ref (s.heap.objs.size + 4)))) { s with heap := h' }) :=
  .of_wp fun prog w A R s h => by
    obtain ⟨hp, g, d, tk, os⟩ := s
    obtain ⟨a1, a2, h⟩ := h
    have hsub := sub_zip
    have b1 : SOb (Shared.heap ⟨hp, g, d, tk, os⟩) t1 l1 xs := a1
    have b2 : SOb (Shared.heap ⟨hp.push { cls := .type (itCls t1), data := .fields #[.ref l1, .int 0 0] }, g, d, tk, os⟩) t2 l2 ys := SOb.push a2 _
    cases st
    · show wpAny _ _ (Builtin.«zip.__new__» ⟨[.type "zip", .ref l1, .ref l2], []⟩) _ _ _
      wp_walk using iterS b1, iterS b2
      exact ⟨_, rfl, zipFin2 (R := fun v hh => R (.ok (.ret v)) ⟨hh, g, d, tk, os⟩) hp _ t1 t2 l1 l2 h⟩
    · show wpAny _ _ (Builtin.«zip.__new__» ⟨[.type "zip", .ref l1, .ref l2], [("strict", .bool true)]⟩) _ _ _
      wp_walk using iterS b1, iterS b2
      exact ⟨_, rfl, zipFin2 (R := fun v hh => R (.ok (.ret v)) ⟨hh, g, d, tk, os⟩) hp _ t1 t2 l1 l2 h⟩
theorem zipFin3 {R : Value → Heap → Prop} (hp : Heap) (st t1 t2 t3 : Bool) (l1 l2 l3 : Addr)
    (h : ∀ h', ZipO h' (hp.objs.size + 5) (hp.objs.size + 3) (hp.objs.size + 4) .none st → TupO h' (hp.objs.size + 3) #[.ref hp.objs.size, .ref (hp.objs.size + 1), .ref (hp.objs.size + 2)] → TupO h' (hp.objs.size + 4) #[.none, .none, .none] →
        SIt h' t1 hp.objs.size l1 0 → SIt h' t2 (hp.objs.size + 1) l2 0 → SIt h' t3 (hp.objs.size + 2) l3 0 → h'.objs.size = hp.objs.size + 6 → (∀ b o, hp.get? b = some o → h'.get? b = some o) → R (.ref (hp.objs.size + 5)) h') :
    R (.ref (((((hp.push (itO t1 l1)).push (itO t2 l2)).push (itO t3 l3)).push (tuO #[.ref hp.objs.size, .ref (hp.push (itO t1 l1)).objs.size, .ref ((hp.push (itO t1 l1)).push (itO t2 l2)).objs.size])).push (tuO #[.none, .none, .none])).objs.size) ((((((hp.push (itO t1 l1)).push (itO t2 l2)).push (itO t3 l3)).push (tuO #[.ref hp.objs.size, .ref (hp.push (itO t1 l1)).objs.size, .ref ((hp.push (itO t1 l1)).push (itO t2 l2)).objs.size])).push (tuO #[.none, .none, .none])).push { cls := .type "zip", data := .fields #[.none, .bool false, .bool st, .ref (((hp.push (itO t1 l1)).push (itO t2 l2)).push (itO t3 l3)).objs.size, .ref ((((hp.push (itO t1 l1)).push (itO t2 l2)).push (itO t3 l3)).push (tuO #[.ref hp.objs.size, .ref (hp.push (itO t1 l1)).objs.size, .ref ((hp.push (itO t1 l1)).push (itO t2 l2)).objs.size])).objs.size] }) := by
  have z1 : (hp.push (itO t1 l1)).objs.size = hp.objs.size + 1 := Heap.size_push ..
  have z2 : ((hp.push (itO t1 l1)).push (itO t2 l2)).objs.size = hp.objs.size + 2 := by rw [Heap.size_push, z1]
  have z3 : (((hp.push (itO t1 l1)).push (itO t2 l2)).push (itO t3 l3)).objs.size = hp.objs.size + 3 := by rw [Heap.size_push, z2]
  have z4 : ((((hp.push (itO t1 l1)).push (itO t2 l2)).push (itO t3 l3)).push (tuO #[.ref hp.objs.size, .ref (hp.push (itO t1 l1)).objs.size, .ref ((hp.push (itO t1 l1)).push (itO t2 l2)).objs.size])).objs.size = hp.objs.size + 4 := by rw [Heap.size_push, z3]
  have z5 : (((((hp.push (itO t1 l1)).push (itO t2 l2)).push (itO t3 l3)).push (tuO #[.ref hp.objs.size, .ref (hp.push (itO t1 l1)).objs.size, .ref ((hp.push (itO t1 l1)).push (itO t2 l2)).objs.size])).push (tuO #[.none, .none, .none])).objs.size = hp.objs.size + 5 := by rw [Heap.size_push, z4]
  rw [z5, z4, z3]
  have up : ∀ {h : Heap} {o u : Obj} {b : Addr}, h.get? b = some u → (h.push o).get? b = some u := fun q => Heap.get?_push_of_some _ q
  refine h _ ?_ ?_ ?_ (SIt.new ?_) (SIt.new ?_) (SIt.new ?_) ?_ fun b o q => up (up (up (up (up (up q)))))
  · rw [ZipO, ← z5]; exact Heap.get?_push_size _ rfl
  · rw [TupO, ← z3, ← z1, ← z2]; exact up (up (Heap.get?_push_size _ rfl))
  · rw [TupO, ← z4]; exact up (Heap.get?_push_size _ rfl)
  · exact up (up (up (up (up (Heap.get?_push_size _ rfl)))))
  · rw [← z1]; exact up (up (up (up (Heap.get?_push_size _ rfl))))
  · rw [← z2]; exact up (up (up (Heap.get?_push_size _ rfl)))
  · rw [Heap.size_push, z5]
theorem zipNew3 (st t1 t2 t3 : Bool) (l1 l2 l3 : Addr) (xs ys zs : Array Value) :
    Meets (Builtin.«zip.__new__» ⟨[.type "zip", .ref l1, .ref l2, .ref l3], kwS st⟩) (fun _ R s => SOb s.heap t1 l1 xs ∧ SOb s.heap t2 l2 ys ∧ SOb s.heap t3 l3 zs ∧
      ∀ h', ZipO h' (s.heap.objs.size + 5) (s.heap.objs.size + 3) (s.heap.objs.size + 4) .none st → TupO h' (s.heap.objs.size + 3) #[.ref s.heap.objs.size, .ref (s.heap.objs.size + 1), .ref (s.heap.objs.size + 2)] → TupO h' (s.heap.objs.size + 4) #[.none, .none, .none] →
        SIt h' t1 s.heap.objs.size l1 0 → SIt h' t2 (s.heap.objs.size + 1) l2 0 → SIt h' t3 (s.heap.objs.size + 2) l3 0 → h'.objs.size = s.heap.objs.size + 6 → (∀ b o, s.heap.get? b = some o → h'.get? b = some o) →
        R (.ok (.ret (.ref (s.heap.objs.size + 5)))) { s with heap := h' }) :=
  .of_wp fun prog w A R s h => by
    obtain ⟨hp, g, d, tk, os⟩ := s
    obtain ⟨a1, a2, a3, h⟩ := h
    have hsub := sub_zip
    have b1 : SOb (Shared.heap ⟨hp, g, d, tk, os⟩) t1 l1 xs := a1
    have b2 : SOb (Shared.heap ⟨hp.push { cls := .type (itCls t1), data := .fields #[.ref l1, .int 0 0] }, g, d, tk, os⟩) t2 l2 ys := SOb.push a2 _
    have b3 : SOb (Shared.heap ⟨(hp.push { cls := .type (itCls t1), data := .fields #[.ref l1, .int 0 0] }).push { cls := .type (itCls t2), data := .fields #[.ref l2, .int 0 0] }, g, d, tk, os⟩) t3 l3 zs := SOb.push (SOb.push a3 _) _
    cases st
    · show wpAny _ _ (Builtin.«zip.__new__» ⟨[.type "zip", .ref l1, .ref l2, .ref l3], []⟩) _ _ _
      wp_walk using iterS b1, iterS b2, iterS b3
      exact ⟨_, rfl, zipFin3 (R := fun v hh => R (.ok (.ret v)) ⟨hh, g, d, tk, os⟩) hp _ t1 t2 t3 l1 l2 l3 h⟩
    · show wpAny _ _ (Builtin.«zip.__new__» ⟨[.type "zip", .ref l1, .ref l2, .ref l3], [("strict", .bool true)]⟩) _ _ _
      wp_walk using iterS b1, iterS b2, iterS b3
      exact ⟨_, rfl, zipFin3 (R := fun v hh => R (.ok (.ret v)) ⟨hh, g, d, tk, os⟩) hp _ t1 t2 t3 l1 l2 l3 h⟩
end
end DL


set_option Elab.async false
set_option linter.all false
set_option maxRecDepth 100000
set_option maxHeartbeats 2000000
/-! DL6: one turn of zip. -/
namespace DL
open PySem PySem.Spec PyProof.Rows L2
open PySem.Builtin.SmallTypes (nextOf nextOrEnd)

/-- a zip of two, ahead of turn i: its records stand at n, n + 1, .. -/
structure Z2 (h : Heap) (n : Nat) (st t1 t2 : Bool) (l1 l2 : Nat) (i : Nat) : Prop where
  z : ZipO h (n + 4) (n + 2) (n + 3) .none st
  ti : TupO h (n + 2) #[.ref n, .ref (n + 1)]
  to : ∃ a b, TupO h (n + 3) #[a, b]
  i1 : SIt h t1 n l1 i
  i2 : SIt h t2 (n + 1) l2 i

/-- a zip of three -/
structure Z3 (h : Heap) (n : Nat) (st t1 t2 t3 : Bool) (l1 l2 l3 : Nat) (i : Nat) : Prop where
  z : ZipO h (n + 5) (n + 3) (n + 4) .none st
  ti : TupO h (n + 3) #[.ref n, .ref (n + 1), .ref (n + 2)]
  to : ∃ a b c, TupO h (n + 4) #[a, b, c]
  i1 : SIt h t1 n l1 i
  i2 : SIt h t2 (n + 1) l2 i
  i3 : SIt h t3 (n + 2) l3 i

section
variable {prog : Program} {w : World} {A : Around} {E : Value → Shared → Prop} {s : Shared} {n l1 l2 l3 : Nat} {st t1 t2 t3 : Bool} {i : Nat} {xs ys zs : Array Value}
theorem updTup {T : Addr} {us : Array Value} {x : Value} {k : Nat} {Q : Unit → Shared → Prop} (hT : TupO s.heap T us) (hz : us.size ≤ 8)
    (h : ∀ h', TupO h' T (us.setIfInBounds k x) → Heap.SameBut T s.heap h' → Q () { s with heap := h' }) : wpAny (model prog w) A (updateSeq T (·.setIfInBounds k x)) Q E s := by
  refine wpAny_updateSeq hT rfl (h _ ?_ (Heap.SameBut.update ..)) (by rw [sizeLine_eq]; omega) (by rw [Array.size_setIfInBounds, sizeLine_eq]; omega)
  rw [TupO, Heap.get?_update_self _ hT rfl]
  simp [Obj.mapSeq]
/-- one drawing, strict or not -/
theorem drawS {c : Bool} {α : Type} {t : Bool} {it l : Addr} {items : Array Value} {x : Value} {k : Option Value → Sem α} {Q : α → Shared → Prop} (hit : SIt s.heap t it l i) (hl : SOb s.heap t l items) (hx : items[i]? = some x)
    (hQ : ∀ h', SIt h' t it l (i + 1) → Heap.SameBut it s.heap h' → wpAny (model prog w) A (k (some x)) Q E { s with heap := h' }) (f : Value → Sem Unit) :
    wpAny (model prog w) A (((if c = true then nextOrEnd (.ref it) else (do return some (← nextOf (.ref it)))).onRaise f) >>= k) Q E s := by
  refine wpAny_bind (wpAny_onRaise ?_)
  cases c
  · exact wpAny_bind (nextS hit hl hx fun h' a b => wpAny_pure (hQ h' a b))
  · exact nextS' hit hl hx fun h' a b => hQ h' a b

theorem z2_item {x y : Value} {Q : Value → Shared → Prop} (D : Z2 s.heap n st t1 t2 l1 l2 i) (n1 : l1 < n) (n2 : l2 < n) (o1 : SOb s.heap t1 l1 xs) (o2 : SOb s.heap t2 l2 ys) (hx : xs[i]? = some x) (hy : ys[i]? = some y)
    (hQ : ∀ h', ZipO h' (n + 4) (n + 2) (n + 3) (rawInt s.heap.objs.size) st → TupO h' (n + 2) #[.ref n, .ref (n + 1)] → TupO h' (n + 3) #[x, y] → SIt h' t1 n l1 (i + 1) → SIt h' t2 (n + 1) l2 (i + 1) → TupO h' s.heap.objs.size #[x, y] →
      h'.objs.size = s.heap.objs.size + 1 → (∀ b o, b ∉ [n, n + 1, n + 2, n + 3, n + 4] → s.heap.get? b = some o → h'.get? b = some o) → Q (.ref s.heap.objs.size) { s with heap := h' }) :
    wpAny (model prog w) A (Builtin.«zip.__next__» ⟨[.ref (n + 4)], []⟩) (fun fin s' => ∃ v, fin = .done (.ret v) ∧ Q v s') E s := by
  obtain ⟨hz, hti, ⟨a, b, hto⟩, hi1, hi2⟩ := D
  refine (show wpAny _ _ (field (.ref (n + 4)) 2 >>= _) _ _ _ from wpAny_bind (wpAny_field hz rfl (x := .bool st) rfl ?_))
  refine (show wpAny _ _ (field (.ref (n + 4)) 3 >>= _) _ _ _ from wpAny_bind (wpAny_field hz rfl (x := .ref (n + 2)) rfl ?_))
  refine wpAny_bind (wpAny_seqItems hti rfl ?_)
  refine (show wpAny _ _ (Builtin.SmallTypes.ownedTupleIsFree (.ref (n + 4)) >>= _) _ _ _ from wpAny_bind ?_)
  unfold Builtin.SmallTypes.ownedTupleIsFree
  refine wpAny_bind (wpAny_field hz rfl (x := .none) rfl (wpAny_pure ?_))
  simp only [if_true]
  refine wpAny_bind (wpAny_rule ?_)
  refine wpAny_bind (wpAny_field hz rfl (x := .ref (n + 3)) rfl ?_)
  refine wpAny_bind (wpAny_setField_rec hz (by simp) fun h1 hz1 s1 => ?_)
  replace hz1 : ZipO h1 (n + 4) (n + 2) (n + 3) .ellipsis st := hz1
  refine wpAny_bind ?_
  simp only [List.zipIdx_cons, List.zipIdx_nil, List.forIn_cons, List.forIn_nil]
  have k1 : ∀ (c : Nat) o, c ≠ (n + 4) → s.heap.get? c = some o → h1.get? c = some o := fun c o q e => s1.extBut c o q e
  have kk1 : ∀ (c : Nat) o, c ≠ (n + 4) → s.heap.get? c = some o → h1.get? c = some o := k1
  have a0 : SIt h1 t1 n l1 i := hi1.at fun o q => k1 n o (by omega) q
  have b0 : SOb h1 t1 l1 xs := o1.at fun o q => k1 l1 o (by omega) q
  refine wpAny_bind (drawS (s := { s with heap := h1 }) (c := Value.bool st == Value.bool true) a0 b0 hx (fun h2 g0 s2 => ?_) _)
  have to0 : TupO h2 (n + 3) #[a, b] := s2.extBut (n + 3) _ (show (n + 3) ≠ n by omega) (k1 (n + 3) _ (by omega) hto)
  refine wpAny_bind (wpAny_seqItems to0 rfl (wpAny_bind (updTup to0 (Nat.le_of_ble_eq_true rfl) fun h3 tn0 s3 => wpAny_bind (wpAny_letGo (wpAny_pure ?_)))))
  replace tn0 : TupO h3 (n + 3) #[x, b] := tn0
  have k3 : ∀ (c : Nat) o, c ≠ (n + 4) → c ≠ (n + 3) → c ≠ n → s.heap.get? c = some o → h3.get? c = some o := fun c o q0 q1 q2 e => s3.extBut c o q1 (s2.extBut c o q2 (k1 c o q0 e))
  have a1 : SIt h3 t2 (n + 1) l2 i := hi2.at fun o q => k3 (n + 1) o (by omega) (by omega) (by omega) q
  have b1 : SOb h3 t2 l2 ys := o2.at fun o q => k3 l2 o (by omega) (by omega) (by omega) q
  refine wpAny_bind (drawS (s := { s with heap := h3 }) (c := Value.bool st == Value.bool true) a1 b1 hy (fun h4 g1 s4 => ?_) _)
  have to1 : TupO h4 (n + 3) #[x, b] := s4.extBut (n + 3) _ (show (n + 3) ≠ (n + 1) by omega) tn0
  refine wpAny_bind (wpAny_seqItems to1 rfl (wpAny_bind (updTup to1 (Nat.le_of_ble_eq_true rfl) fun h5 tn1 s5 => wpAny_bind (wpAny_letGo (wpAny_pure (wpAny_pure ?_))))))
  replace tn1 : TupO h5 (n + 3) #[x, y] := tn1
  have k5 : ∀ (c : Nat) o, c ≠ (n + 4) → c ≠ (n + 3) → c ≠ n → c ≠ (n + 1) → s.heap.get? c = some o → h5.get? c = some o := fun c o q0 q1 q2 q3 e => s5.extBut c o q1 (s4.extBut c o q3 (k3 c o q0 q1 q2 e))
  have z5 : ZipO h5 (n + 4) (n + 2) (n + 3) .ellipsis st := s5.extBut (n + 4) _ (show (n + 4) ≠ (n + 3) by omega) (s4.extBut (n + 4) _ (show (n + 4) ≠ (n + 1) by omega) (s3.extBut (n + 4) _ (show (n + 4) ≠ (n + 3) by omega) (s2.extBut (n + 4) _ (show (n + 4) ≠ n by omega) (hz1))))
  have j1 : SIt h5 t1 n l1 (i + 1) := g0.at fun o q => s5.extBut n _ (show n ≠ (n + 3) by omega) (s4.extBut n _ (show n ≠ (n + 1) by omega) (s3.extBut n _ (show n ≠ (n + 3) by omega) (q)))
  have j2 : SIt h5 t2 (n + 1) l2 (i + 1) := g1.at fun o q => s5.extBut (n + 1) _ (show (n + 1) ≠ (n + 3) by omega) (q)
  have hsz : h5.objs.size = s.heap.objs.size := by rw [s5.1, s4.1, s3.1, s2.1, s1.1]
  refine wpAny_bind (wpAny_seqItems tn1 rfl (wpAny_bind (wpAny_newTuple ?_)))
  refine (show wpAny _ _ (Builtin.SmallTypes.ownedTupleHandOut (.ref (n + 4)) (.ref h5.objs.size) >>= _) _ _ _ from wpAny_bind ?_)
  unfold Builtin.SmallTypes.ownedTupleHandOut
  have up : ∀ {c : Addr} {u : Obj}, h5.get? c = some u → (h5.push (tuO #[x, y])).get? c = some u := fun q => Heap.get?_push_of_some _ q
  have z6 : ZipO (h5.push (tuO #[x, y])) (n + 4) (n + 2) (n + 3) .ellipsis st := up z5
  refine wpAny_bind (wpAny_setField_rec z6 (by simp) fun hA zA sA => ?_)
  replace zA : ZipO hA (n + 4) (n + 2) (n + 3) (rawInt h5.objs.size) st := zA
  refine wpAny_setField_rec zA (by simp) fun hB zB sB => ?_
  replace zB : ZipO hB (n + 4) (n + 2) (n + 3) (rawInt h5.objs.size) st := zB
  have k8 : ∀ (c : Nat) o, c ≠ (n + 4) → h5.get? c = some o → hB.get? c = some o := fun c o q e => sB.extBut c o q (sA.extBut c o q (up e))
  have hzl : (n + 4) < h5.objs.size := Heap.lt_size z5
  have T8 : TupO hB h5.objs.size #[x, y] := sB.extBut _ _ (Nat.ne_of_gt hzl) (sA.extBut _ _ (Nat.ne_of_gt hzl) (Heap.get?_push_size _ rfl))
  have sz8 : hB.objs.size = h5.objs.size + 1 := by rw [sB.1, sA.1, Heap.size_push]
  refine wpAny_pure ⟨_, rfl, ?_⟩
  rw [hsz] at zB T8 sz8
  rw [hsz]
  exact hQ hB zB (k8 (n + 2) _ (by omega) (k5 (n + 2) _ (by omega) (by omega) (by omega) (by omega) hti)) (k8 (n + 3) _ (by omega) tn1) (j1.at fun o q => k8 n o (by omega) q) (j2.at fun o q => k8 (n + 1) o (by omega) q) T8 sz8
    fun c o hc e => by
      simp only [List.mem_cons, List.mem_nil_iff, or_false, not_or] at hc
      exact k8 c o hc.2.2.2.2 (k5 c o hc.2.2.2.2 hc.2.2.2.1 hc.1 hc.2.1 e)
theorem z3_item {x y v : Value} {Q : Value → Shared → Prop} (D : Z3 s.heap n st t1 t2 t3 l1 l2 l3 i) (n1 : l1 < n) (n2 : l2 < n) (n3 : l3 < n) (o1 : SOb s.heap t1 l1 xs) (o2 : SOb s.heap t2 l2 ys) (o3 : SOb s.heap t3 l3 zs) (hx : xs[i]? = some x) (hy : ys[i]? = some y) (hv : zs[i]? = some v)
    (hQ : ∀ h', ZipO h' (n + 5) (n + 3) (n + 4) (rawInt s.heap.objs.size) st → TupO h' (n + 3) #[.ref n, .ref (n + 1), .ref (n + 2)] → TupO h' (n + 4) #[x, y, v] → SIt h' t1 n l1 (i + 1) → SIt h' t2 (n + 1) l2 (i + 1) → SIt h' t3 (n + 2) l3 (i + 1) → TupO h' s.heap.objs.size #[x, y, v] →
      h'.objs.size = s.heap.objs.size + 1 → (∀ b o, b ∉ [n, n + 1, n + 2, n + 3, n + 4, n + 5] → s.heap.get? b = some o → h'.get? b = some o) → Q (.ref s.heap.objs.size) { s with heap := h' }) :
    wpAny (model prog w) A (Builtin.«zip.__next__» ⟨[.ref (n + 5)], []⟩) (fun fin s' => ∃ v, fin = .done (.ret v) ∧ Q v s') E s := by
  obtain ⟨hz, hti, ⟨a, b, c, hto⟩, hi1, hi2, hi3⟩ := D
  refine (show wpAny _ _ (field (.ref (n + 5)) 2 >>= _) _ _ _ from wpAny_bind (wpAny_field hz rfl (x := .bool st) rfl ?_))
  refine (show wpAny _ _ (field (.ref (n + 5)) 3 >>= _) _ _ _ from wpAny_bind (wpAny_field hz rfl (x := .ref (n + 3)) rfl ?_))
  refine wpAny_bind (wpAny_seqItems hti rfl ?_)
  refine (show wpAny _ _ (Builtin.SmallTypes.ownedTupleIsFree (.ref (n + 5)) >>= _) _ _ _ from wpAny_bind ?_)
  unfold Builtin.SmallTypes.ownedTupleIsFree
  refine wpAny_bind (wpAny_field hz rfl (x := .none) rfl (wpAny_pure ?_))
  simp only [if_true]
  refine wpAny_bind (wpAny_rule ?_)
  refine wpAny_bind (wpAny_field hz rfl (x := .ref (n + 4)) rfl ?_)
  refine wpAny_bind (wpAny_setField_rec hz (by simp) fun h1 hz1 s1 => ?_)
  replace hz1 : ZipO h1 (n + 5) (n + 3) (n + 4) .ellipsis st := hz1
  refine wpAny_bind ?_
  simp only [List.zipIdx_cons, List.zipIdx_nil, List.forIn_cons, List.forIn_nil]
  have k1 : ∀ (c : Nat) o, c ≠ (n + 5) → s.heap.get? c = some o → h1.get? c = some o := fun c o q e => s1.extBut c o q e
  have kk1 : ∀ (c : Nat) o, c ≠ (n + 5) → s.heap.get? c = some o → h1.get? c = some o := k1
  have a0 : SIt h1 t1 n l1 i := hi1.at fun o q => k1 n o (by omega) q
  have b0 : SOb h1 t1 l1 xs := o1.at fun o q => k1 l1 o (by omega) q
  refine wpAny_bind (drawS (s := { s with heap := h1 }) (c := Value.bool st == Value.bool true) a0 b0 hx (fun h2 g0 s2 => ?_) _)
  have to0 : TupO h2 (n + 4) #[a, b, c] := s2.extBut (n + 4) _ (show (n + 4) ≠ n by omega) (k1 (n + 4) _ (by omega) hto)
  refine wpAny_bind (wpAny_seqItems to0 rfl (wpAny_bind (updTup to0 (Nat.le_of_ble_eq_true rfl) fun h3 tn0 s3 => wpAny_bind (wpAny_letGo (wpAny_pure ?_)))))
  replace tn0 : TupO h3 (n + 4) #[x, b, c] := tn0
  have k3 : ∀ (c : Nat) o, c ≠ (n + 5) → c ≠ (n + 4) → c ≠ n → s.heap.get? c = some o → h3.get? c = some o := fun c o q0 q1 q2 e => s3.extBut c o q1 (s2.extBut c o q2 (k1 c o q0 e))
  have a1 : SIt h3 t2 (n + 1) l2 i := hi2.at fun o q => k3 (n + 1) o (by omega) (by omega) (by omega) q
  have b1 : SOb h3 t2 l2 ys := o2.at fun o q => k3 l2 o (by omega) (by omega) (by omega) q
  refine wpAny_bind (drawS (s := { s with heap := h3 }) (c := Value.bool st == Value.bool true) a1 b1 hy (fun h4 g1 s4 => ?_) _)
  have to1 : TupO h4 (n + 4) #[x, b, c] := s4.extBut (n + 4) _ (show (n + 4) ≠ (n + 1) by omega) tn0
  refine wpAny_bind (wpAny_seqItems to1 rfl (wpAny_bind (updTup to1 (Nat.le_of_ble_eq_true rfl) fun h5 tn1 s5 => wpAny_bind (wpAny_letGo (wpAny_pure ?_)))))
  replace tn1 : TupO h5 (n + 4) #[x, y, c] := tn1
  have k5 : ∀ (c : Nat) o, c ≠ (n + 5) → c ≠ (n + 4) → c ≠ n → c ≠ (n + 1) → s.heap.get? c = some o → h5.get? c = some o := fun c o q0 q1 q2 q3 e => s5.extBut c o q1 (s4.extBut c o q3 (k3 c o q0 q1 q2 e))
  have a2 : SIt h5 t3 (n + 2) l3 i := hi3.at fun o q => k5 (n + 2) o (by omega) (by omega) (by omega) (by omega) q
  have b2 : SOb h5 t3 l3 zs := o3.at fun o q => k5 l3 o (by omega) (by omega) (by omega) (by omega) q
  refine wpAny_bind (drawS (s := { s with heap := h5 }) (c := Value.bool st == Value.bool true) a2 b2 hv (fun h6 g2 s6 => ?_) _)
  have to2 : TupO h6 (n + 4) #[x, y, c] := s6.extBut (n + 4) _ (show (n + 4) ≠ (n + 2) by omega) tn1
  refine wpAny_bind (wpAny_seqItems to2 rfl (wpAny_bind (updTup to2 (Nat.le_of_ble_eq_true rfl) fun h7 tn2 s7 => wpAny_bind (wpAny_letGo (wpAny_pure (wpAny_pure ?_))))))
  replace tn2 : TupO h7 (n + 4) #[x, y, v] := tn2
  have k7 : ∀ (c : Nat) o, c ≠ (n + 5) → c ≠ (n + 4) → c ≠ n → c ≠ (n + 1) → c ≠ (n + 2) → s.heap.get? c = some o → h7.get? c = some o := fun c o q0 q1 q2 q3 q4 e => s7.extBut c o q1 (s6.extBut c o q4 (k5 c o q0 q1 q2 q3 e))
  have z5 : ZipO h7 (n + 5) (n + 3) (n + 4) .ellipsis st := s7.extBut (n + 5) _ (show (n + 5) ≠ (n + 4) by omega) (s6.extBut (n + 5) _ (show (n + 5) ≠ (n + 2) by omega) (s5.extBut (n + 5) _ (show (n + 5) ≠ (n + 4) by omega) (s4.extBut (n + 5) _ (show (n + 5) ≠ (n + 1) by omega) (s3.extBut (n + 5) _ (show (n + 5) ≠ (n + 4) by omega) (s2.extBut (n + 5) _ (show (n + 5) ≠ n by omega) (hz1))))))
  have j1 : SIt h7 t1 n l1 (i + 1) := g0.at fun o q => s7.extBut n _ (show n ≠ (n + 4) by omega) (s6.extBut n _ (show n ≠ (n + 2) by omega) (s5.extBut n _ (show n ≠ (n + 4) by omega) (s4.extBut n _ (show n ≠ (n + 1) by omega) (s3.extBut n _ (show n ≠ (n + 4) by omega) (q)))))
  have j2 : SIt h7 t2 (n + 1) l2 (i + 1) := g1.at fun o q => s7.extBut (n + 1) _ (show (n + 1) ≠ (n + 4) by omega) (s6.extBut (n + 1) _ (show (n + 1) ≠ (n + 2) by omega) (s5.extBut (n + 1) _ (show (n + 1) ≠ (n + 4) by omega) (q)))
  have j3 : SIt h7 t3 (n + 2) l3 (i + 1) := g2.at fun o q => s7.extBut (n + 2) _ (show (n + 2) ≠ (n + 4) by omega) (q)
  have hsz : h7.objs.size = s.heap.objs.size := by rw [s7.1, s6.1, s5.1, s4.1, s3.1, s2.1, s1.1]
  refine wpAny_bind (wpAny_seqItems tn2 rfl (wpAny_bind (wpAny_newTuple ?_)))
  refine (show wpAny _ _ (Builtin.SmallTypes.ownedTupleHandOut (.ref (n + 5)) (.ref h7.objs.size) >>= _) _ _ _ from wpAny_bind ?_)
  unfold Builtin.SmallTypes.ownedTupleHandOut
  have up : ∀ {c : Addr} {u : Obj}, h7.get? c = some u → (h7.push (tuO #[x, y, v])).get? c = some u := fun q => Heap.get?_push_of_some _ q
  have z6 : ZipO (h7.push (tuO #[x, y, v])) (n + 5) (n + 3) (n + 4) .ellipsis st := up z5
  refine wpAny_bind (wpAny_setField_rec z6 (by simp) fun hA zA sA => ?_)
  replace zA : ZipO hA (n + 5) (n + 3) (n + 4) (rawInt h7.objs.size) st := zA
  refine wpAny_setField_rec zA (by simp) fun hB zB sB => ?_
  replace zB : ZipO hB (n + 5) (n + 3) (n + 4) (rawInt h7.objs.size) st := zB
  have k8 : ∀ (c : Nat) o, c ≠ (n + 5) → h7.get? c = some o → hB.get? c = some o := fun c o q e => sB.extBut c o q (sA.extBut c o q (up e))
  have hzl : (n + 5) < h7.objs.size := Heap.lt_size z5
  have T8 : TupO hB h7.objs.size #[x, y, v] := sB.extBut _ _ (Nat.ne_of_gt hzl) (sA.extBut _ _ (Nat.ne_of_gt hzl) (Heap.get?_push_size _ rfl))
  have sz8 : hB.objs.size = h7.objs.size + 1 := by rw [sB.1, sA.1, Heap.size_push]
  refine wpAny_pure ⟨_, rfl, ?_⟩
  rw [hsz] at zB T8 sz8
  rw [hsz]
  exact hQ hB zB (k8 (n + 3) _ (by omega) (k7 (n + 3) _ (by omega) (by omega) (by omega) (by omega) (by omega) hti)) (k8 (n + 4) _ (by omega) tn2) (j1.at fun o q => k8 n o (by omega) q) (j2.at fun o q => k8 (n + 1) o (by omega) q) (j3.at fun o q => k8 (n + 2) o (by omega) q) T8 sz8
    fun c o hc e => by
      simp only [List.mem_cons, List.mem_nil_iff, or_false, not_or] at hc
      exact k8 c o hc.2.2.2.2.2 (k7 c o hc.2.2.2.2.2 hc.2.2.2.2.1 hc.1 hc.2.1 hc.2.2.1 e)
end
end DL


set_option Elab.async false
set_option linter.all false
set_option maxRecDepth 100000
set_option maxHeartbeats 2000000
/-! DL7: the end of zip. -/
namespace DL
open PySem PySem.Spec PyProof.Rows L2
open PySem.Builtin.SmallTypes (nextOf nextOrEnd)
section
variable {prog : Program} {w : World} {A : Around} {E : Value → Shared → Prop} {s : Shared} {n l1 l2 l3 : Nat} {st t1 t2 t3 : Bool} {i : Nat} {xs ys zs : Array Value}
theorem z2_endF0 {Q : Fin → Shared → Prop} (hh : A.handled = none) (D : Z2 s.heap n false t1 t2 l1 l2 i) (n1 : l1 < n) (n2 : l2 < n) (o1 : SOb s.heap t1 l1 xs) (o2 : SOb s.heap t2 l2 ys)  (hend : xs[i]? = none)
    (hE : ∀ h' e, (∀ b o, b ∉ [n, n + 1, n + 2, n + 3, n + 4] → s.heap.get? b = some o → h'.get? b = some o) → (∃ o, h'.get? e = some o ∧ o.cls = .type "StopIteration") → E (.ref e) { s with heap := h' }) :
    wpAny (model prog w) A (Builtin.«zip.__next__» ⟨[.ref (n + 4)], []⟩) Q E s := by
  obtain ⟨hz, hti, ⟨a, b, hto⟩, hi1, hi2⟩ := D
  refine (show wpAny _ _ (field (.ref (n + 4)) 2 >>= _) _ _ _ from wpAny_bind (wpAny_field hz rfl (x := .bool false) rfl ?_))
  refine (show wpAny _ _ (field (.ref (n + 4)) 3 >>= _) _ _ _ from wpAny_bind (wpAny_field hz rfl (x := .ref (n + 2)) rfl ?_))
  refine wpAny_bind (wpAny_seqItems hti rfl ?_)
  refine (show wpAny _ _ (Builtin.SmallTypes.ownedTupleIsFree (.ref (n + 4)) >>= _) _ _ _ from wpAny_bind ?_)
  unfold Builtin.SmallTypes.ownedTupleIsFree
  refine wpAny_bind (wpAny_field hz rfl (x := .none) rfl (wpAny_pure ?_))
  simp only [if_true]
  refine wpAny_bind (wpAny_rule ?_)
  refine wpAny_bind (wpAny_field hz rfl (x := .ref (n + 3)) rfl ?_)
  refine wpAny_bind (wpAny_setField_rec hz (by simp) fun h1 hz1 s1 => ?_)
  replace hz1 : ZipO h1 (n + 4) (n + 2) (n + 3) .ellipsis false := hz1
  refine wpAny_bind ?_
  simp only [List.zipIdx_cons, List.zipIdx_nil, List.forIn_cons, List.forIn_nil]
  have k1 : ∀ (c : Nat) o, c ≠ (n + 4) → s.heap.get? c = some o → h1.get? c = some o := fun c o q e => s1.extBut c o q e
  have a0 : SIt h1 t1 n l1 i := hi1.at fun o q => k1 n o (by omega) q
  have b0 : SOb h1 t1 l1 xs := o1.at fun o q => k1 l1 o (by omega) q
  have zz : ZipO h1 (n + 4) (n + 2) (n + 3) .ellipsis false := hz1
  refine wpAny_bind (wpAny_bind (wpAny_onRaise (show wpAny _ _ (nextOf (.ref n) >>= _) _ _ _ from wpAny_bind (nextE (s := { s with heap := h1 }) hh a0 b0 hend fun hA e sA he => ?_))))
  obtain ⟨oe, hoe, hce⟩ := he
  have zA : ZipO hA (n + 4) (n + 2) (n + 3) .ellipsis false := sA (n + 4) _ (show (n + 4) ≠ n by omega) zz
  have hez : e ≠ (n + 4) := fun q => by subst q; rw [ZipO, hoe] at zA; cases zA; simp at hce
  refine wpAny_setField_rec zA (by simp) fun hB _ sB => hE hB e (fun c o hc q => ?_) ⟨oe, sB.extBut _ _ hez hoe, hce⟩
  simp only [List.mem_cons, List.mem_nil_iff, or_false, not_or] at hc
  exact sB.extBut c o hc.2.2.2.2 (sA c o hc.1 (k1 c o hc.2.2.2.2 q))
theorem z2_endF1 {x : Value} {Q : Fin → Shared → Prop} (hh : A.handled = none) (D : Z2 s.heap n false t1 t2 l1 l2 i) (n1 : l1 < n) (n2 : l2 < n) (o1 : SOb s.heap t1 l1 xs) (o2 : SOb s.heap t2 l2 ys) (hx : xs[i]? = some x) (hend : ys[i]? = none)
    (hE : ∀ h' e, (∀ b o, b ∉ [n, n + 1, n + 2, n + 3, n + 4] → s.heap.get? b = some o → h'.get? b = some o) → (∃ o, h'.get? e = some o ∧ o.cls = .type "StopIteration") → E (.ref e) { s with heap := h' }) :
    wpAny (model prog w) A (Builtin.«zip.__next__» ⟨[.ref (n + 4)], []⟩) Q E s := by
  obtain ⟨hz, hti, ⟨a, b, hto⟩, hi1, hi2⟩ := D
  refine (show wpAny _ _ (field (.ref (n + 4)) 2 >>= _) _ _ _ from wpAny_bind (wpAny_field hz rfl (x := .bool false) rfl ?_))
  refine (show wpAny _ _ (field (.ref (n + 4)) 3 >>= _) _ _ _ from wpAny_bind (wpAny_field hz rfl (x := .ref (n + 2)) rfl ?_))
  refine wpAny_bind (wpAny_seqItems hti rfl ?_)
  refine (show wpAny _ _ (Builtin.SmallTypes.ownedTupleIsFree (.ref (n + 4)) >>= _) _ _ _ from wpAny_bind ?_)
  unfold Builtin.SmallTypes.ownedTupleIsFree
  refine wpAny_bind (wpAny_field hz rfl (x := .none) rfl (wpAny_pure ?_))
  simp only [if_true]
  refine wpAny_bind (wpAny_rule ?_)
  refine wpAny_bind (wpAny_field hz rfl (x := .ref (n + 3)) rfl ?_)
  refine wpAny_bind (wpAny_setField_rec hz (by simp) fun h1 hz1 s1 => ?_)
  replace hz1 : ZipO h1 (n + 4) (n + 2) (n + 3) .ellipsis false := hz1
  refine wpAny_bind ?_
  simp only [List.zipIdx_cons, List.zipIdx_nil, List.forIn_cons, List.forIn_nil]
  have k1 : ∀ (c : Nat) o, c ≠ (n + 4) → s.heap.get? c = some o → h1.get? c = some o := fun c o q e => s1.extBut c o q e
  have a0 : SIt h1 t1 n l1 i := hi1.at fun o q => k1 n o (by omega) q
  have b0 : SOb h1 t1 l1 xs := o1.at fun o q => k1 l1 o (by omega) q
  refine wpAny_bind (drawS (s := { s with heap := h1 }) (c := Value.bool false == Value.bool true) a0 b0 hx (fun h2 g0 s2 => ?_) _)
  have to0 : TupO h2 (n + 3) #[a, b] := s2.extBut (n + 3) _ (show (n + 3) ≠ n by omega) (k1 (n + 3) _ (by omega) hto)
  refine wpAny_bind (wpAny_seqItems to0 rfl (wpAny_bind (updTup to0 (Nat.le_of_ble_eq_true rfl) fun h3 tn0 s3 => wpAny_bind (wpAny_letGo (wpAny_pure ?_)))))
  replace tn0 : TupO h3 (n + 3) #[x, b] := tn0
  have k3 : ∀ (c : Nat) o, c ≠ (n + 4) → c ≠ (n + 3) → c ≠ n → s.heap.get? c = some o → h3.get? c = some o := fun c o q0 q1 q2 e => s3.extBut c o q1 (s2.extBut c o q2 (k1 c o q0 e))
  have a1 : SIt h3 t2 (n + 1) l2 i := hi2.at fun o q => k3 (n + 1) o (by omega) (by omega) (by omega) q
  have b1 : SOb h3 t2 l2 ys := o2.at fun o q => k3 l2 o (by omega) (by omega) (by omega) q
  have zz : ZipO h3 (n + 4) (n + 2) (n + 3) .ellipsis false := s3.extBut (n + 4) _ (show (n + 4) ≠ (n + 3) by omega) (s2.extBut (n + 4) _ (show (n + 4) ≠ n by omega) (hz1))
  refine wpAny_bind (wpAny_bind (wpAny_onRaise (show wpAny _ _ (nextOf (.ref (n + 1)) >>= _) _ _ _ from wpAny_bind (nextE (s := { s with heap := h3 }) hh a1 b1 hend fun hA e sA he => ?_))))
  obtain ⟨oe, hoe, hce⟩ := he
  have zA : ZipO hA (n + 4) (n + 2) (n + 3) .ellipsis false := sA (n + 4) _ (show (n + 4) ≠ (n + 1) by omega) zz
  have hez : e ≠ (n + 4) := fun q => by subst q; rw [ZipO, hoe] at zA; cases zA; simp at hce
  refine wpAny_setField_rec zA (by simp) fun hB _ sB => hE hB e (fun c o hc q => ?_) ⟨oe, sB.extBut _ _ hez hoe, hce⟩
  simp only [List.mem_cons, List.mem_nil_iff, or_false, not_or] at hc
  exact sB.extBut c o hc.2.2.2.2 (sA c o hc.2.1 (k3 c o hc.2.2.2.2 hc.2.2.2.1 hc.1 q))
theorem z2_endT {Q : Fin → Shared → Prop} (hh : A.handled = none) (D : Z2 s.heap n true t1 t2 l1 l2 i) (n1 : l1 < n) (n2 : l2 < n) (o1 : SOb s.heap t1 l1 xs) (o2 : SOb s.heap t2 l2 ys) (e1 : xs[i]? = none) (e2 : ys[i]? = none)
    (hE : ∀ h' e, (∀ b o, b ∉ [n, n + 1, n + 2, n + 3, n + 4] → s.heap.get? b = some o → h'.get? b = some o) → (∃ o, h'.get? e = some o ∧ o.cls = .type "StopIteration") → E (.ref e) { s with heap := h' }) :
    wpAny (model prog w) A (Builtin.«zip.__next__» ⟨[.ref (n + 4)], []⟩) Q E s := by
  obtain ⟨hz, hti, ⟨a, b, hto⟩, hi1, hi2⟩ := D
  refine (show wpAny _ _ (field (.ref (n + 4)) 2 >>= _) _ _ _ from wpAny_bind (wpAny_field hz rfl (x := .bool true) rfl ?_))
  refine (show wpAny _ _ (field (.ref (n + 4)) 3 >>= _) _ _ _ from wpAny_bind (wpAny_field hz rfl (x := .ref (n + 2)) rfl ?_))
  refine wpAny_bind (wpAny_seqItems hti rfl ?_)
  refine (show wpAny _ _ (Builtin.SmallTypes.ownedTupleIsFree (.ref (n + 4)) >>= _) _ _ _ from wpAny_bind ?_)
  unfold Builtin.SmallTypes.ownedTupleIsFree
  refine wpAny_bind (wpAny_field hz rfl (x := .none) rfl (wpAny_pure ?_))
  simp only [if_true]
  refine wpAny_bind (wpAny_rule ?_)
  refine wpAny_bind (wpAny_field hz rfl (x := .ref (n + 3)) rfl ?_)
  refine wpAny_bind (wpAny_setField_rec hz (by simp) fun h1 hz1 s1 => ?_)
  replace hz1 : ZipO h1 (n + 4) (n + 2) (n + 3) .ellipsis true := hz1
  refine wpAny_bind ?_
  simp only [List.zipIdx_cons, List.zipIdx_nil, List.forIn_cons, List.forIn_nil]
  have k1 : ∀ (c : Nat) o, c ≠ (n + 4) → s.heap.get? c = some o → h1.get? c = some o := fun c o q e => s1.extBut c o q e
  have a0 : SIt h1 t1 n l1 i := hi1.at fun o q => k1 n o (by omega) q
  have b0 : SOb h1 t1 l1 xs := o1.at fun o q => k1 l1 o (by omega) q
  refine wpAny_bind (wpAny_bind (wpAny_onRaise (show wpAny _ _ (nextOrEnd (.ref n)) _ _ _ from nextE' (s := { s with heap := h1 }) hh a0 b0 e1 fun h2 s2 => ?_)))
  have z2 : ZipO h2 (n + 4) (n + 2) (n + 3) .ellipsis true := s2 (n + 4) _ (show (n + 4) ≠ n by omega) hz1
  refine wpAny_bind (wpAny_setField_rec z2 (by simp) fun h3 z3 s3 => wpAny_bind ?_)
  have k3 : ∀ (c : Nat) o, c ≠ (n + 4) → c ≠ n → s.heap.get? c = some o → h3.get? c = some o := fun c o q0 q1 e => s3.extBut c o q0 (s2 c o q1 (k1 c o q0 e))
  refine wpAny_bind ?_
  simp only [List.drop_succ_cons, List.drop_zero, List.zipIdx_cons, List.zipIdx_nil, List.forIn_cons, List.forIn_nil]
  have a1 : SIt h3 t2 (n + 1) l2 i := hi2.at fun o q => k3 (n + 1) o (by omega) (by omega) q
  have b1 : SOb h3 t2 l2 ys := o2.at fun o q => k3 l2 o (by omega) (by omega) q
  refine wpAny_bind (show wpAny _ _ (nextOrEnd (.ref (n + 1)) >>= _) _ _ _ from wpAny_bind (nextE' (s := { s with heap := h3 }) hh a1 b1 e2 fun h4 s4 => ?_))
  simp only [Option.isSome_none, Bool.false_eq_true, if_false]
  refine wpAny_pure ?_
  have k4 : ∀ (c : Nat) o, c ≠ (n + 4) → c ≠ n → c ≠ (n + 1) → s.heap.get? c = some o → h4.get? c = some o := fun c o q0 q1 q2 e => s4 c o q2 (k3 c o q0 q1 e)
  refine wpAny_pure (wpAny_bind (wpAny_rule (stopS hh fun hB e sB he => hE hB e (fun c o hc q => ?_) he)))
  simp only [List.mem_cons, List.mem_nil_iff, or_false, not_or] at hc
  exact sB c o (k4 c o hc.2.2.2.2 hc.1 hc.2.1 q)
theorem z3_endF0 {Q : Fin → Shared → Prop} (hh : A.handled = none) (D : Z3 s.heap n false t1 t2 t3 l1 l2 l3 i) (n1 : l1 < n) (n2 : l2 < n) (n3 : l3 < n) (o1 : SOb s.heap t1 l1 xs) (o2 : SOb s.heap t2 l2 ys) (o3 : SOb s.heap t3 l3 zs)  (hend : xs[i]? = none)
    (hE : ∀ h' e, (∀ b o, b ∉ [n, n + 1, n + 2, n + 3, n + 4, n + 5] → s.heap.get? b = some o → h'.get? b = some o) → (∃ o, h'.get? e = some o ∧ o.cls = .type "StopIteration") → E (.ref e) { s with heap := h' }) :
    wpAny (model prog w) A (Builtin.«zip.__next__» ⟨[.ref (n + 5)], []⟩) Q E s := by
  obtain ⟨hz, hti, ⟨a, b, c, hto⟩, hi1, hi2, hi3⟩ := D
  refine (show wpAny _ _ (field (.ref (n + 5)) 2 >>= _) _ _ _ from wpAny_bind (wpAny_field hz rfl (x := .bool false) rfl ?_))
  refine (show wpAny _ _ (field (.ref (n + 5)) 3 >>= _) _ _ _ from wpAny_bind (wpAny_field hz rfl (x := .ref (n + 3)) rfl ?_))
  refine wpAny_bind (wpAny_seqItems hti rfl ?_)
  refine (show wpAny _ _ (Builtin.SmallTypes.ownedTupleIsFree (.ref (n + 5)) >>= _) _ _ _ from wpAny_bind ?_)
  unfold Builtin.SmallTypes.ownedTupleIsFree
  refine wpAny_bind (wpAny_field hz rfl (x := .none) rfl (wpAny_pure ?_))
  simp only [if_true]
  refine wpAny_bind (wpAny_rule ?_)
  refine wpAny_bind (wpAny_field hz rfl (x := .ref (n + 4)) rfl ?_)
  refine wpAny_bind (wpAny_setField_rec hz (by simp) fun h1 hz1 s1 => ?_)
  replace hz1 : ZipO h1 (n + 5) (n + 3) (n + 4) .ellipsis false := hz1
  refine wpAny_bind ?_
  simp only [List.zipIdx_cons, List.zipIdx_nil, List.forIn_cons, List.forIn_nil]
  have k1 : ∀ (c : Nat) o, c ≠ (n + 5) → s.heap.get? c = some o → h1.get? c = some o := fun c o q e => s1.extBut c o q e
  have a0 : SIt h1 t1 n l1 i := hi1.at fun o q => k1 n o (by omega) q
  have b0 : SOb h1 t1 l1 xs := o1.at fun o q => k1 l1 o (by omega) q
  have zz : ZipO h1 (n + 5) (n + 3) (n + 4) .ellipsis false := hz1
  refine wpAny_bind (wpAny_bind (wpAny_onRaise (show wpAny _ _ (nextOf (.ref n) >>= _) _ _ _ from wpAny_bind (nextE (s := { s with heap := h1 }) hh a0 b0 hend fun hA e sA he => ?_))))
  obtain ⟨oe, hoe, hce⟩ := he
  have zA : ZipO hA (n + 5) (n + 3) (n + 4) .ellipsis false := sA (n + 5) _ (show (n + 5) ≠ n by omega) zz
  have hez : e ≠ (n + 5) := fun q => by subst q; rw [ZipO, hoe] at zA; cases zA; simp at hce
  refine wpAny_setField_rec zA (by simp) fun hB _ sB => hE hB e (fun c o hc q => ?_) ⟨oe, sB.extBut _ _ hez hoe, hce⟩
  simp only [List.mem_cons, List.mem_nil_iff, or_false, not_or] at hc
  exact sB.extBut c o hc.2.2.2.2.2 (sA c o hc.1 (k1 c o hc.2.2.2.2.2 q))
theorem z3_endF1 {x : Value} {Q : Fin → Shared → Prop} (hh : A.handled = none) (D : Z3 s.heap n false t1 t2 t3 l1 l2 l3 i) (n1 : l1 < n) (n2 : l2 < n) (n3 : l3 < n) (o1 : SOb s.heap t1 l1 xs) (o2 : SOb s.heap t2 l2 ys) (o3 : SOb s.heap t3 l3 zs) (hx : xs[i]? = some x) (hend : ys[i]? = none)
    (hE : ∀ h' e, (∀ b o, b ∉ [n, n + 1, n + 2, n + 3, n + 4, n + 5] → s.heap.get? b = some o → h'.get? b = some o) → (∃ o, h'.get? e = some o ∧ o.cls = .type "StopIteration") → E (.ref e) { s with heap := h' }) :
    wpAny (model prog w) A (Builtin.«zip.__next__» ⟨[.ref (n + 5)], []⟩) Q E s := by
  obtain ⟨hz, hti, ⟨a, b, c, hto⟩, hi1, hi2, hi3⟩ := D
  refine (show wpAny _ _ (field (.ref (n + 5)) 2 >>= _) _ _ _ from wpAny_bind (wpAny_field hz rfl (x := .bool false) rfl ?_))
  refine (show wpAny _ _ (field (.ref (n + 5)) 3 >>= _) _ _ _ from wpAny_bind (wpAny_field hz rfl (x := .ref (n + 3)) rfl ?_))
  refine wpAny_bind (wpAny_seqItems hti rfl ?_)
  refine (show wpAny _ _ (Builtin.SmallTypes.ownedTupleIsFree (.ref (n + 5)) >>= _) _ _ _ from wpAny_bind ?_)
  unfold Builtin.SmallTypes.ownedTupleIsFree
  refine wpAny_bind (wpAny_field hz rfl (x := .none) rfl (wpAny_pure ?_))
  simp only [if_true]
  refine wpAny_bind (wpAny_rule ?_)
  refine wpAny_bind (wpAny_field hz rfl (x := .ref (n + 4)) rfl ?_)
  refine wpAny_bind (wpAny_setField_rec hz (by simp) fun h1 hz1 s1 => ?_)
  replace hz1 : ZipO h1 (n + 5) (n + 3) (n + 4) .ellipsis false := hz1
  refine wpAny_bind ?_
  simp only [List.zipIdx_cons, List.zipIdx_nil, List.forIn_cons, List.forIn_nil]
  have k1 : ∀ (c : Nat) o, c ≠ (n + 5) → s.heap.get? c = some o → h1.get? c = some o := fun c o q e => s1.extBut c o q e
  have a0 : SIt h1 t1 n l1 i := hi1.at fun o q => k1 n o (by omega) q
  have b0 : SOb h1 t1 l1 xs := o1.at fun o q => k1 l1 o (by omega) q
  refine wpAny_bind (drawS (s := { s with heap := h1 }) (c := Value.bool false == Value.bool true) a0 b0 hx (fun h2 g0 s2 => ?_) _)
  have to0 : TupO h2 (n + 4) #[a, b, c] := s2.extBut (n + 4) _ (show (n + 4) ≠ n by omega) (k1 (n + 4) _ (by omega) hto)
  refine wpAny_bind (wpAny_seqItems to0 rfl (wpAny_bind (updTup to0 (Nat.le_of_ble_eq_true rfl) fun h3 tn0 s3 => wpAny_bind (wpAny_letGo (wpAny_pure ?_)))))
  replace tn0 : TupO h3 (n + 4) #[x, b, c] := tn0
  have k3 : ∀ (c : Nat) o, c ≠ (n + 5) → c ≠ (n + 4) → c ≠ n → s.heap.get? c = some o → h3.get? c = some o := fun c o q0 q1 q2 e => s3.extBut c o q1 (s2.extBut c o q2 (k1 c o q0 e))
  have a1 : SIt h3 t2 (n + 1) l2 i := hi2.at fun o q => k3 (n + 1) o (by omega) (by omega) (by omega) q
  have b1 : SOb h3 t2 l2 ys := o2.at fun o q => k3 l2 o (by omega) (by omega) (by omega) q
  have zz : ZipO h3 (n + 5) (n + 3) (n + 4) .ellipsis false := s3.extBut (n + 5) _ (show (n + 5) ≠ (n + 4) by omega) (s2.extBut (n + 5) _ (show (n + 5) ≠ n by omega) (hz1))
  refine wpAny_bind (wpAny_bind (wpAny_onRaise (show wpAny _ _ (nextOf (.ref (n + 1)) >>= _) _ _ _ from wpAny_bind (nextE (s := { s with heap := h3 }) hh a1 b1 hend fun hA e sA he => ?_))))
  obtain ⟨oe, hoe, hce⟩ := he
  have zA : ZipO hA (n + 5) (n + 3) (n + 4) .ellipsis false := sA (n + 5) _ (show (n + 5) ≠ (n + 1) by omega) zz
  have hez : e ≠ (n + 5) := fun q => by subst q; rw [ZipO, hoe] at zA; cases zA; simp at hce
  refine wpAny_setField_rec zA (by simp) fun hB _ sB => hE hB e (fun c o hc q => ?_) ⟨oe, sB.extBut _ _ hez hoe, hce⟩
  simp only [List.mem_cons, List.mem_nil_iff, or_false, not_or] at hc
  exact sB.extBut c o hc.2.2.2.2.2 (sA c o hc.2.1 (k3 c o hc.2.2.2.2.2 hc.2.2.2.2.1 hc.1 q))
theorem z3_endF2 {x : Value} {y : Value} {Q : Fin → Shared → Prop} (hh : A.handled = none) (D : Z3 s.heap n false t1 t2 t3 l1 l2 l3 i) (n1 : l1 < n) (n2 : l2 < n) (n3 : l3 < n) (o1 : SOb s.heap t1 l1 xs) (o2 : SOb s.heap t2 l2 ys) (o3 : SOb s.heap t3 l3 zs) (hx : xs[i]? = some x) (hy : ys[i]? = some y) (hend : zs[i]? = none)
    (hE : ∀ h' e, (∀ b o, b ∉ [n, n + 1, n + 2, n + 3, n + 4, n + 5] → s.heap.get? b = some o → h'.get? b = some o) → (∃ o, h'.get? e = some o ∧ o.cls = .type "StopIteration") → E (.ref e) { s with heap := h' }) :
    wpAny (model prog w) A (Builtin.«zip.__next__» ⟨[.ref (n + 5)], []⟩) Q E s := by
  obtain ⟨hz, hti, ⟨a, b, c, hto⟩, hi1, hi2, hi3⟩ := D
  refine (show wpAny _ _ (field (.ref (n + 5)) 2 >>= _) _ _ _ from wpAny_bind (wpAny_field hz rfl (x := .bool false) rfl ?_))
  refine (show wpAny _ _ (field (.ref (n + 5)) 3 >>= _) _ _ _ from wpAny_bind (wpAny_field hz rfl (x := .ref (n + 3)) rfl ?_))
  refine wpAny_bind (wpAny_seqItems hti rfl ?_)
  refine (show wpAny _ _ (Builtin.SmallTypes.ownedTupleIsFree (.ref (n + 5)) >>= _) _ _ _ from wpAny_bind ?_)
  unfold Builtin.SmallTypes.ownedTupleIsFree
  refine wpAny_bind (wpAny_field hz rfl (x := .none) rfl (wpAny_pure ?_))
  simp only [if_true]
  refine wpAny_bind (wpAny_rule ?_)
  refine wpAny_bind (wpAny_field hz rfl (x := .ref (n + 4)) rfl ?_)
  refine wpAny_bind (wpAny_setField_rec hz (by simp) fun h1 hz1 s1 => ?_)
  replace hz1 : ZipO h1 (n + 5) (n + 3) (n + 4) .ellipsis false := hz1
  refine wpAny_bind ?_
  simp only [List.zipIdx_cons, List.zipIdx_nil, List.forIn_cons, List.forIn_nil]
  have k1 : ∀ (c : Nat) o, c ≠ (n + 5) → s.heap.get? c = some o → h1.get? c = some o := fun c o q e => s1.extBut c o q e
  have a0 : SIt h1 t1 n l1 i := hi1.at fun o q => k1 n o (by omega) q
  have b0 : SOb h1 t1 l1 xs := o1.at fun o q => k1 l1 o (by omega) q
  refine wpAny_bind (drawS (s := { s with heap := h1 }) (c := Value.bool false == Value.bool true) a0 b0 hx (fun h2 g0 s2 => ?_) _)
  have to0 : TupO h2 (n + 4) #[a, b, c] := s2.extBut (n + 4) _ (show (n + 4) ≠ n by omega) (k1 (n + 4) _ (by omega) hto)
  refine wpAny_bind (wpAny_seqItems to0 rfl (wpAny_bind (updTup to0 (Nat.le_of_ble_eq_true rfl) fun h3 tn0 s3 => wpAny_bind (wpAny_letGo (wpAny_pure ?_)))))
  replace tn0 : TupO h3 (n + 4) #[x, b, c] := tn0
  have k3 : ∀ (c : Nat) o, c ≠ (n + 5) → c ≠ (n + 4) → c ≠ n → s.heap.get? c = some o → h3.get? c = some o := fun c o q0 q1 q2 e => s3.extBut c o q1 (s2.extBut c o q2 (k1 c o q0 e))
  have a1 : SIt h3 t2 (n + 1) l2 i := hi2.at fun o q => k3 (n + 1) o (by omega) (by omega) (by omega) q
  have b1 : SOb h3 t2 l2 ys := o2.at fun o q => k3 l2 o (by omega) (by omega) (by omega) q
  refine wpAny_bind (drawS (s := { s with heap := h3 }) (c := Value.bool false == Value.bool true) a1 b1 hy (fun h4 g1 s4 => ?_) _)
  have to1 : TupO h4 (n + 4) #[x, b, c] := s4.extBut (n + 4) _ (show (n + 4) ≠ (n + 1) by omega) tn0
  refine wpAny_bind (wpAny_seqItems to1 rfl (wpAny_bind (updTup to1 (Nat.le_of_ble_eq_true rfl) fun h5 tn1 s5 => wpAny_bind (wpAny_letGo (wpAny_pure ?_)))))
  replace tn1 : TupO h5 (n + 4) #[x, y, c] := tn1
  have k5 : ∀ (c : Nat) o, c ≠ (n + 5) → c ≠ (n + 4) → c ≠ n → c ≠ (n + 1) → s.heap.get? c = some o → h5.get? c = some o := fun c o q0 q1 q2 q3 e => s5.extBut c o q1 (s4.extBut c o q3 (k3 c o q0 q1 q2 e))
  have a2 : SIt h5 t3 (n + 2) l3 i := hi3.at fun o q => k5 (n + 2) o (by omega) (by omega) (by omega) (by omega) q
  have b2 : SOb h5 t3 l3 zs := o3.at fun o q => k5 l3 o (by omega) (by omega) (by omega) (by omega) q
  have zz : ZipO h5 (n + 5) (n + 3) (n + 4) .ellipsis false := s5.extBut (n + 5) _ (show (n + 5) ≠ (n + 4) by omega) (s4.extBut (n + 5) _ (show (n + 5) ≠ (n + 1) by omega) (s3.extBut (n + 5) _ (show (n + 5) ≠ (n + 4) by omega) (s2.extBut (n + 5) _ (show (n + 5) ≠ n by omega) (hz1))))
  refine wpAny_bind (wpAny_bind (wpAny_onRaise (show wpAny _ _ (nextOf (.ref (n + 2)) >>= _) _ _ _ from wpAny_bind (nextE (s := { s with heap := h5 }) hh a2 b2 hend fun hA e sA he => ?_))))
  obtain ⟨oe, hoe, hce⟩ := he
  have zA : ZipO hA (n + 5) (n + 3) (n + 4) .ellipsis false := sA (n + 5) _ (show (n + 5) ≠ (n + 2) by omega) zz
  have hez : e ≠ (n + 5) := fun q => by subst q; rw [ZipO, hoe] at zA; cases zA; simp at hce
  refine wpAny_setField_rec zA (by simp) fun hB _ sB => hE hB e (fun c o hc q => ?_) ⟨oe, sB.extBut _ _ hez hoe, hce⟩
  simp only [List.mem_cons, List.mem_nil_iff, or_false, not_or] at hc
  exact sB.extBut c o hc.2.2.2.2.2 (sA c o hc.2.2.1 (k5 c o hc.2.2.2.2.2 hc.2.2.2.2.1 hc.1 hc.2.1 q))
theorem z3_endT {Q : Fin → Shared → Prop} (hh : A.handled = none) (D : Z3 s.heap n true t1 t2 t3 l1 l2 l3 i) (n1 : l1 < n) (n2 : l2 < n) (n3 : l3 < n) (o1 : SOb s.heap t1 l1 xs) (o2 : SOb s.heap t2 l2 ys) (o3 : SOb s.heap t3 l3 zs) (e1 : xs[i]? = none) (e2 : ys[i]? = none) (e3 : zs[i]? = none)
    (hE : ∀ h' e, (∀ b o, b ∉ [n, n + 1, n + 2, n + 3, n + 4, n + 5] → s.heap.get? b = some o → h'.get? b = some o) → (∃ o, h'.get? e = some o ∧ o.cls = .type "StopIteration") → E (.ref e) { s with heap := h' }) :
    wpAny (model prog w) A (Builtin.«zip.__next__» ⟨[.ref (n + 5)], []⟩) Q E s := by
  obtain ⟨hz, hti, ⟨a, b, c, hto⟩, hi1, hi2, hi3⟩ := D
  refine (show wpAny _ _ (field (.ref (n + 5)) 2 >>= _) _ _ _ from wpAny_bind (wpAny_field hz rfl (x := .bool true) rfl ?_))
  refine (show wpAny _ _ (field (.ref (n + 5)) 3 >>= _) _ _ _ from wpAny_bind (wpAny_field hz rfl (x := .ref (n + 3)) rfl ?_))
  refine wpAny_bind (wpAny_seqItems hti rfl ?_)
  refine (show wpAny _ _ (Builtin.SmallTypes.ownedTupleIsFree (.ref (n + 5)) >>= _) _ _ _ from wpAny_bind ?_)
  unfold Builtin.SmallTypes.ownedTupleIsFree
  refine wpAny_bind (wpAny_field hz rfl (x := .none) rfl (wpAny_pure ?_))
  simp only [if_true]
  refine wpAny_bind (wpAny_rule ?_)
  refine wpAny_bind (wpAny_field hz rfl (x := .ref (n + 4)) rfl ?_)
  refine wpAny_bind (wpAny_setField_rec hz (by simp) fun h1 hz1 s1 => ?_)
  replace hz1 : ZipO h1 (n + 5) (n + 3) (n + 4) .ellipsis true := hz1
  refine wpAny_bind ?_
  simp only [List.zipIdx_cons, List.zipIdx_nil, List.forIn_cons, List.forIn_nil]
  have k1 : ∀ (c : Nat) o, c ≠ (n + 5) → s.heap.get? c = some o → h1.get? c = some o := fun c o q e => s1.extBut c o q e
  have a0 : SIt h1 t1 n l1 i := hi1.at fun o q => k1 n o (by omega) q
  have b0 : SOb h1 t1 l1 xs := o1.at fun o q => k1 l1 o (by omega) q
  refine wpAny_bind (wpAny_bind (wpAny_onRaise (show wpAny _ _ (nextOrEnd (.ref n)) _ _ _ from nextE' (s := { s with heap := h1 }) hh a0 b0 e1 fun h2 s2 => ?_)))
  have z2 : ZipO h2 (n + 5) (n + 3) (n + 4) .ellipsis true := s2 (n + 5) _ (show (n + 5) ≠ n by omega) hz1
  refine wpAny_bind (wpAny_setField_rec z2 (by simp) fun h3 z3 s3 => wpAny_bind ?_)
  have k3 : ∀ (c : Nat) o, c ≠ (n + 5) → c ≠ n → s.heap.get? c = some o → h3.get? c = some o := fun c o q0 q1 e => s3.extBut c o q0 (s2 c o q1 (k1 c o q0 e))
  refine wpAny_bind ?_
  simp only [List.drop_succ_cons, List.drop_zero, List.zipIdx_cons, List.zipIdx_nil, List.forIn_cons, List.forIn_nil]
  have a1 : SIt h3 t2 (n + 1) l2 i := hi2.at fun o q => k3 (n + 1) o (by omega) (by omega) q
  have b1 : SOb h3 t2 l2 ys := o2.at fun o q => k3 l2 o (by omega) (by omega) q
  refine wpAny_bind (show wpAny _ _ (nextOrEnd (.ref (n + 1)) >>= _) _ _ _ from wpAny_bind (nextE' (s := { s with heap := h3 }) hh a1 b1 e2 fun h4 s4 => ?_))
  simp only [Option.isSome_none, Bool.false_eq_true, if_false]
  refine wpAny_pure ?_
  have k4 : ∀ (c : Nat) o, c ≠ (n + 5) → c ≠ n → c ≠ (n + 1) → s.heap.get? c = some o → h4.get? c = some o := fun c o q0 q1 q2 e => s4 c o q2 (k3 c o q0 q1 e)
  have a2 : SIt h4 t3 (n + 2) l3 i := hi3.at fun o q => k4 (n + 2) o (by omega) (by omega) (by omega) q
  have b2 : SOb h4 t3 l3 zs := o3.at fun o q => k4 l3 o (by omega) (by omega) (by omega) q
  refine wpAny_bind (show wpAny _ _ (nextOrEnd (.ref (n + 2)) >>= _) _ _ _ from wpAny_bind (nextE' (s := { s with heap := h4 }) hh a2 b2 e3 fun h5 s5 => ?_))
  simp only [Option.isSome_none, Bool.false_eq_true, if_false]
  refine wpAny_pure ?_
  have k5 : ∀ (c : Nat) o, c ≠ (n + 5) → c ≠ n → c ≠ (n + 1) → c ≠ (n + 2) → s.heap.get? c = some o → h5.get? c = some o := fun c o q0 q1 q2 q3 e => s5 c o q3 (k4 c o q0 q1 q2 e)
  refine wpAny_pure (wpAny_bind (wpAny_rule (stopS hh fun hB e sB he => hE hB e (fun c o hc q => ?_) he)))
  simp only [List.mem_cons, List.mem_nil_iff, or_false, not_or] at hc
  exact sB c o (k5 c o hc.2.2.2.2.2 hc.1 hc.2.1 hc.2.2.1 q)
end
end DL


set_option Elab.async false
set_option linter.all false
set_option maxRecDepth 100000
set_option maxHeartbeats 2000000
/-! DL8: what a zip walks (Turn). -/
namespace DL
open PySem PySem.Spec PyProof.Rows L2
open PySem.Builtin.SmallTypes (nextOf nextOrEnd)
def Sq (K : PySem.W.Frag) (H : Hp) (t : Bool) (a : Addr) (xs : List V) : Prop := if t = true then SqT K H a xs else SqL K H a xs
theorem sq_ob {X : Cx} {pins : List (Addr × Obj)} {σ : L2.St} {H : Hp} {s : Shared} {t : Bool} {a : Addr} {xs : List V} (I : L2.Inv X pins σ H s) (h : Sq X.K H t a xs) : ∃ its : List Value, Vals xs its ∧ SOb s.heap t a its.toArray := by
  cases t
  · obtain ⟨its, rv, p, _⟩ := I.list (show SqL X.K H a xs from h)
    exact ⟨its, rv, p.isList⟩
  · obtain ⟨its, rv, p, _⟩ := I.tuple (show SqT X.K H a xs from h)
    exact ⟨its, rv, p⟩
theorem sq_inj {X : Cx} {pins : List (Addr × Obj)} {σ : L2.St} {H : Hp} {s : Shared} {t : Bool} {a : Addr} {xs ys : List V} (I : L2.Inv X pins σ H s) (h : Sq X.K H t a xs) (h2 : Sq X.K H t a ys) : xs = ys := by
  cases t
  · exact I.list_inj h h2
  · exact I.tuple_inj h h2
theorem SOb.lt {h : Heap} {t : Bool} {a : Addr} {its : Array Value} (x : SOb h t a its) : a < h.objs.size := by
  cases t
  · obtain ⟨o, ho, _⟩ := (show h.IsList a its from x)
    exact Heap.lt_size ho
  · obtain ⟨o, ho, _⟩ := (show h.IsTuple a its from x)
    exact Heap.lt_size ho
section
variable {prog : Program} {w : World} {A : Around} {E : Value → Shared → Prop} {s : Shared} {n l1 l2 l3 : Nat} {st t1 t2 t3 : Bool} {i : Nat} {xs ys zs : Array Value}
/-- the owned tuple is let go by an unpacking target -/
theorem letGoZ {elts : List Expr} {x1 : Nat} {pos : Pos} {z TI TO T : Addr} {Q : Unit → Shared → Prop} (hz : ZipO s.heap z TI TO (rawInt T) st) (hQ : ∀ h', ZipO h' z TI TO .none st → Heap.SameBut z s.heap h' → Q () { s with heap := h' }) :
    wpAny (model prog w) A (letOwnedTupleGo (.Tuple elts x1 pos) (.ref z) (.ref T)) Q E s := by
  unfold letOwnedTupleGo
  refine wpAny_bind (wpAny_load hz ?_)
  refine (show wpAny _ _ (if ((["enumerate", "zip", "dict_itemiterator", "dict_reverseitemiterator", "odict_iterator", "itertools.zip_longest", "itertools.pairwise"] : List String).contains "zip" && ((#[rawInt T, .bool false, .bool st, .ref TI, .ref TO] : Array Value)[0]? == some (rawInt T))) = true then _ else _) Q E s from ?_)
  rw [if_pos (by simp)]
  refine wpAny_bind (wpAny_rule ?_)
  exact (show wpAny _ _ (setField (.ref z) 0 .none) Q E s from wpAny_setField_rec hz (by simp) fun h' a b => hQ h' a b)
theorem iterZ {z TI TO : Addr} {f0 : Value} {Q : Value → Shared → Prop} (hz : ZipO s.heap z TI TO f0 st) (h : Q (.ref z) s) : wpAny (model prog w) A (pyIter (.ref z)) Q E s := by
  have hT : s.TypeIs (.ref z) "zip" := ⟨_, hz, rfl⟩
  refine wpAny_pyIter_slot hT F.slot_zip_iter (wpAny_call_entry F.slot_zip_iter hT F.entry_zip_iter ?_ (F.args_zip_iter_1 _))
  exact (show wpAny _ _ (ret (.ref z)) _ _ s from wpAny_pure ⟨_, rfl, "zip", _, hT, F.slot_zip_next.lookup, h⟩)
theorem z2_next {x y : Value} {Q : Option Value → Shared → Prop} (D : Z2 s.heap n st t1 t2 l1 l2 i) (n1 : l1 < n) (n2 : l2 < n) (o1 : SOb s.heap t1 l1 xs) (o2 : SOb s.heap t2 l2 ys) (hx : xs[i]? = some x) (hy : ys[i]? = some y)
    (hQ : ∀ h', ZipO h' (n + 4) (n + 2) (n + 3) (rawInt s.heap.objs.size) st → TupO h' (n + 2) #[.ref n, .ref (n + 1)] → TupO h' (n + 3) #[x, y] → SIt h' t1 n l1 (i + 1) → SIt h' t2 (n + 1) l2 (i + 1) → TupO h' s.heap.objs.size #[x, y] →
      h'.objs.size = s.heap.objs.size + 1 → (∀ b o, b ∉ [n, n + 1, n + 2, n + 3, n + 4] → s.heap.get? b = some o → h'.get? b = some o) → Q (some (.ref s.heap.objs.size)) { s with heap := h' }) : wpAny (model prog w) A (pyNext (.ref (n + 4))) Q E s := by
  have hT : s.TypeIs (.ref (n + 4)) "zip" := ⟨_, D.z, rfl⟩
  unfold pyNext
  refine wpAny_bind (wpAny_attempt (wpAny_callSpecial?_slot (name := Str.ofString "__next__") hT F.slot_zip_next (wpAny_call_entry F.slot_zip_next hT F.entry_zip_next ?_ (F.args_zip_next_1 _))))
  exact z2_item D n1 n2 o1 o2 hx hy fun h' a b c d0 d1 e f g => wpAny_pure (hQ h' a b c d0 d1 e f g)
theorem z2_stop {Q : Option Value → Shared → Prop} (hh : A.handled = none) (D : Z2 s.heap n st t1 t2 l1 l2 i) (n1 : l1 < n) (n2 : l2 < n) (o1 : SOb s.heap t1 l1 xs) (o2 : SOb s.heap t2 l2 ys)
    (hend : if st = true then xs[i]? = none ∧ ys[i]? = none else xs[i]? = none ∨ ys[i]? = none)
    (hQ : ∀ h', (∀ b o, b ∉ [n, n + 1, n + 2, n + 3, n + 4] → s.heap.get? b = some o → h'.get? b = some o) → Q none { s with heap := h' }) : wpAny (model prog w) A (pyNext (.ref (n + 4))) Q E s := by
  have hT : s.TypeIs (.ref (n + 4)) "zip" := ⟨_, D.z, rfl⟩
  have fin : ∀ h' e, (∀ b o, b ∉ [n, n + 1, n + 2, n + 3, n + 4] → s.heap.get? b = some o → h'.get? b = some o) → (∃ o, h'.get? e = some o ∧ o.cls = .type "StopIteration") →
      wpAny (model prog w) A (do if ← isInstance (.ref e) (.type "StopIteration") then pure none else throw (.ref e)) Q E { s with heap := h' } := fun h' e k he => by
    obtain ⟨o, ho, hc⟩ := he
    exact wpAny_bind (wpAny_isInstance (T := "StopIteration") (b := true) ⟨o, ho, hc⟩ isSubtype_stop (wpAny_pure (hQ _ k)))
  unfold pyNext
  refine wpAny_bind (wpAny_attempt (wpAny_callSpecial?_slot (name := Str.ofString "__next__") hT F.slot_zip_next (wpAny_call_entry F.slot_zip_next hT F.entry_zip_next ?_ (F.args_zip_next_1 _))))
  cases st with
  | true =>
    obtain ⟨e0, e1⟩ : xs[i]? = none ∧ ys[i]? = none := hend
    exact z2_endT hh D n1 n2 o1 o2 e0 e1 fun h' e k he => fin h' e k he
  | false =>
    have hend : xs[i]? = none ∨ ys[i]? = none := hend
    cases hx : xs[i]? with
    | none => exact z2_endF0 hh D n1 n2 o1 o2  hx fun h' e k he => fin h' e k he
    | some x =>
      have q1 : ys[i]? = none := by simpa [hx] using hend
      exact z2_endF1 hh D n1 n2 o1 o2 hx q1 fun h' e k he => fin h' e k he
/-- what such a zip walks -/
def Jz2 (K : PySem.W.Frag) (st t1 t2 : Bool) (l1 l2 : Nat) : L2.It :=
  ⟨fun i H => ∃ (xs ys : List V) (x y : V), Sq K H t1 l1 xs ∧ xs[i]? = some x ∧ Sq K H t2 l2 ys ∧ ys[i]? = some y,
    fun i H r H' => ∃ (T : Addr) (x y : V), r = .ref T ∧ H T = none ∧ H' = upd H T (.tup [x, y]) ∧ (∀ us, Sq K H t1 l1 us → us[i]? = some x) ∧ (∀ us, Sq K H t2 l2 us → us[i]? = some y),
    fun i H => ∃ xs ys : List V, Sq K H t1 l1 xs ∧ Sq K H t2 l2 ys ∧ if st = true then xs.length ≤ i ∧ ys.length ≤ i else xs.length ≤ i ∨ ys.length ≤ i⟩
theorem turnZ2 {P : Program} {w : World} {K : PySem.W.Frag} {elts : List Expr} {kk : Nat} {tpos : Pos} (n l1 l2 : Nat) (st t1 t2 : Bool) (n1 : l1 < n) (n2 : l2 < n) :
    Turn P w K (.Tuple elts kk tpos) (Jz2 K st t1 t2 l1 l2) [n, n + 1, n + 2, n + 3, n + 4] (n + 4) (fun i h => Z2 h n st t1 t2 l1 l2 i) where
  mem := by simp
  obj := fun i h D b hb => by
    obtain ⟨dz, dti, ⟨wa, wb, dto⟩, d1, d2⟩ := D
    have hb' : b = n ∨ b = n + 1 ∨ b = n + 2 ∨ b = n + 3 ∨ b = n + 4 := by simpa using hb
    rcases hb' with rfl | rfl | rfl | rfl | rfl
    · exact d1.obj
    · exact d2.obj
    · exact ⟨_, dti, fun v z => nomatch z⟩
    · exact ⟨_, dto, fun v z => nomatch z⟩
    · exact ⟨_, dz, fun v z => nomatch z⟩
  keep := fun i h h' D k => ⟨k (n + 4) (by simp) _ D.z, k (n + 2) (by simp) _ D.ti, (let ⟨wa, wb, q⟩ := D.to; ⟨wa, wb, k (n + 3) (by simp) _ q⟩), D.i1.at fun o q => k n (by simp) o q, D.i2.at fun o q => k (n + 1) (by simp) o q⟩
  item := by
    intro X hP hw hK hc i pins s σ H E I hf D hg
    subst hP hw hK
    obtain ⟨xs, ys, x, y, q0, g0, q1, g1⟩ := hg
    obtain ⟨is0, rv0, p0⟩ := sq_ob I q0
    obtain ⟨is1, rv1, p1⟩ := sq_ob I q1
    obtain ⟨u0, hu0, ru0⟩ := rv0.get g0
    obtain ⟨u1, hu1, ru1⟩ := rv1.get g1
    refine z2_next D n1 n2 p0 p1 (by simpa using hu0) (by simpa using hu1) fun h' az ati ato ai0 ai1 aT asz ak => ?_
    refine ⟨_, rfl, ?_⟩
    refine letGoZ (s := { s with heap := h' }) az fun h2 bz sb => ?_
    have hzl : (n + 4) < s.heap.objs.size := Heap.lt_size D.z
    have k2 : ∀ (b : Nat) o, b ≠ (n + 4) → h'.get? b = some o → h2.get? b = some o := fun b o q e => sb.extBut b o q e
    have T2 : TupO h2 s.heap.objs.size #[u0, u1] := k2 _ _ (Nat.ne_of_gt hzl) aT
    have new : ObjOk X.prog X.w (upd H s.heap.objs.size (.tup [x, y])) h2 s.heap.objs.size (.tup [x, y]) :=
      ⟨by show 2 ≤ sizeLine; decide, [u0, u1], .cons ru0 (.cons ru1 .nil), ⟨_, T2, rfl, _, rfl⟩⟩
    have I1 : L2.Inv X pins σ (upd H s.heap.objs.size (.tup [x, y])) { s with heap := h2 } :=
      I.turnedNew (t' := s.toks) (ch := [n, n + 1, n + 2, n + 3, n + 4]) (fun b o hb q => k2 b o (fun z => hb (by simp [z])) (ak b o hb q)) hf (Nat.le_refl _) new
    refine ⟨.ref s.heap.objs.size, _, I1, rfl, ⟨_, x, y, rfl, I.hok.fresh (Nat.le_refl _), rfl, fun us hus => by rw [sq_inj I hus q0]; exact g0, fun us hus => by rw [sq_inj I hus q1]; exact g1⟩, ⟨bz, k2 _ _ (by omega) ati, ⟨_, _, k2 _ _ (by omega) ato⟩, ai0.at fun o q => k2 _ o (by omega) q, ai1.at fun o q => k2 _ o (by omega) q⟩, fun b hb => ?_⟩
    have hlt : b < s.heap.objs.size := by
      have hob : ∃ o, s.heap.get? b = some o ∧ ∀ v, o.data ≠ .cell v := by
        obtain ⟨dz, dti, ⟨wa, wb, dto⟩, d1, d2⟩ := D
        have hb' : b = n ∨ b = n + 1 ∨ b = n + 2 ∨ b = n + 3 ∨ b = n + 4 := by simpa using hb
        rcases hb' with rfl | rfl | rfl | rfl | rfl
        · exact d1.obj
        · exact d2.obj
        · exact ⟨_, dti, fun v z => nomatch z⟩
        · exact ⟨_, dto, fun v z => nomatch z⟩
        · exact ⟨_, dz, fun v z => nomatch z⟩
      obtain ⟨o, ho, _⟩ := hob
      exact Heap.lt_size ho
    rw [upd_ne (Nat.ne_of_lt hlt)]
    exact (hf b hb).1
  done := by
    intro X hP hw hK hc i pins s σ H E I hf D hg
    subst hP hw hK
    obtain ⟨xs, ys, q0, q1, hend⟩ := hg
    obtain ⟨is0, rv0, p0⟩ := sq_ob I q0
    obtain ⟨is1, rv1, p1⟩ := sq_ob I q1
    have e0 := rv0.length
    have e1 := rv1.length
    refine z2_stop (I.ok.hd hc) D n1 n2 p0 p1 ?_ fun h' ak => ⟨rfl, I.turnedL (t' := s.toks) (ch := [n, n + 1, n + 2, n + 3, n + 4]) (fun b o hb q => ak b o hb q) hf⟩
    cases st with
    | true =>
      obtain ⟨g0, g1⟩ : xs.length ≤ i ∧ ys.length ≤ i := hend
      exact ⟨by simp; omega, by simp; omega⟩
    | false =>
      have hend : xs.length ≤ i ∨ ys.length ≤ i := hend
      show is0.toArray[i]? = none ∨ is1.toArray[i]? = none
      rcases hend with g | g
      · exact .inl (by simp; omega)
      · exact .inr ((by simp; omega))
  self := fun A i s Q E D h => iterZ D.z h

theorem z3_next {x y v : Value} {Q : Option Value → Shared → Prop} (D : Z3 s.heap n st t1 t2 t3 l1 l2 l3 i) (n1 : l1 < n) (n2 : l2 < n) (n3 : l3 < n) (o1 : SOb s.heap t1 l1 xs) (o2 : SOb s.heap t2 l2 ys) (o3 : SOb s.heap t3 l3 zs) (hx : xs[i]? = some x) (hy : ys[i]? = some y) (hv : zs[i]? = some v)
    (hQ : ∀ h', ZipO h' (n + 5) (n + 3) (n + 4) (rawInt s.heap.objs.size) st → TupO h' (n + 3) #[.ref n, .ref (n + 1), .ref (n + 2)] → TupO h' (n + 4) #[x, y, v] → SIt h' t1 n l1 (i + 1) → SIt h' t2 (n + 1) l2 (i + 1) → SIt h' t3 (n + 2) l3 (i + 1) → TupO h' s.heap.objs.size #[x, y, v] →
      h'.objs.size = s.heap.objs.size + 1 → (∀ b o, b ∉ [n, n + 1, n + 2, n + 3, n + 4, n + 5] → s.heap.get? b = some o → h'.get? b = some o) → Q (some (.ref s.heap.objs.size)) { s with heap := h' }) : wpAny (model prog w) A (pyNext (.ref (n + 5))) Q E s := by
  have hT : s.TypeIs (.ref (n + 5)) "zip" := ⟨_, D.z, rfl⟩
  unfold pyNext
  refine wpAny_bind (wpAny_attempt (wpAny_callSpecial?_slot (name := Str.ofString "__next__") hT F.slot_zip_next (wpAny_call_entry F.slot_zip_next hT F.entry_zip_next ?_ (F.args_zip_next_1 _))))
  exact z3_item D n1 n2 n3 o1 o2 o3 hx hy hv fun h' a b c d0 d1 d2 e f g => wpAny_pure (hQ h' a b c d0 d1 d2 e f g)
theorem z3_stop {Q : Option Value → Shared → Prop} (hh : A.handled = none) (D : Z3 s.heap n st t1 t2 t3 l1 l2 l3 i) (n1 : l1 < n) (n2 : l2 < n) (n3 : l3 < n) (o1 : SOb s.heap t1 l1 xs) (o2 : SOb s.heap t2 l2 ys) (o3 : SOb s.heap t3 l3 zs)
    (hend : if st = true then xs[i]? = none ∧ ys[i]? = none ∧ zs[i]? = none else xs[i]? = none ∨ ys[i]? = none ∨ zs[i]? = none)
    (hQ : ∀ h', (∀ b o, b ∉ [n, n + 1, n + 2, n + 3, n + 4, n + 5] → s.heap.get? b = some o → h'.get? b = some o) → Q none { s with heap := h' }) : wpAny (model prog w) A (pyNext (.ref (n + 5))) Q E s := by
  have hT : s.TypeIs (.ref (n + 5)) "zip" := ⟨_, D.z, rfl⟩
  have fin : ∀ h' e, (∀ b o, b ∉ [n, n + 1, n + 2, n + 3, n + 4, n + 5] → s.heap.get? b = some o → h'.get? b = some o) → (∃ o, h'.get? e = some o ∧ o.cls = .type "StopIteration") →
      wpAny (model prog w) A (do if ← isInstance (.ref e) (.type "StopIteration") then pure none else throw (.ref e)) Q E { s with heap := h' } := fun h' e k he => by
    obtain ⟨o, ho, hc⟩ := he
    exact wpAny_bind (wpAny_isInstance (T := "StopIteration") (b := true) ⟨o, ho, hc⟩ isSubtype_stop (wpAny_pure (hQ _ k)))
  unfold pyNext
  refine wpAny_bind (wpAny_attempt (wpAny_callSpecial?_slot (name := Str.ofString "__next__") hT F.slot_zip_next (wpAny_call_entry F.slot_zip_next hT F.entry_zip_next ?_ (F.args_zip_next_1 _))))
  cases st with
  | true =>
    obtain ⟨e0, e1, e2⟩ : xs[i]? = none ∧ ys[i]? = none ∧ zs[i]? = none := hend
    exact z3_endT hh D n1 n2 n3 o1 o2 o3 e0 e1 e2 fun h' e k he => fin h' e k he
  | false =>
    have hend : xs[i]? = none ∨ ys[i]? = none ∨ zs[i]? = none := hend
    cases hx : xs[i]? with
    | none => exact z3_endF0 hh D n1 n2 n3 o1 o2 o3  hx fun h' e k he => fin h' e k he
    | some x =>
      cases hy : ys[i]? with
      | none => exact z3_endF1 hh D n1 n2 n3 o1 o2 o3 hx hy fun h' e k he => fin h' e k he
      | some y =>
        have q2 : zs[i]? = none := by simpa [hx, hy] using hend
        exact z3_endF2 hh D n1 n2 n3 o1 o2 o3 hx hy q2 fun h' e k he => fin h' e k he
/-- what such a zip walks -/
def Jz3 (K : PySem.W.Frag) (st t1 t2 t3 : Bool) (l1 l2 l3 : Nat) : L2.It :=
  ⟨fun i H => ∃ (xs ys zs : List V) (x y v : V), Sq K H t1 l1 xs ∧ xs[i]? = some x ∧ Sq K H t2 l2 ys ∧ ys[i]? = some y ∧ Sq K H t3 l3 zs ∧ zs[i]? = some v,
    fun i H r H' => ∃ (T : Addr) (x y v : V), r = .ref T ∧ H T = none ∧ H' = upd H T (.tup [x, y, v]) ∧ (∀ us, Sq K H t1 l1 us → us[i]? = some x) ∧ (∀ us, Sq K H t2 l2 us → us[i]? = some y) ∧ (∀ us, Sq K H t3 l3 us → us[i]? = some v),
    fun i H => ∃ xs ys zs : List V, Sq K H t1 l1 xs ∧ Sq K H t2 l2 ys ∧ Sq K H t3 l3 zs ∧ if st = true then xs.length ≤ i ∧ ys.length ≤ i ∧ zs.length ≤ i else xs.length ≤ i ∨ ys.length ≤ i ∨ zs.length ≤ i⟩
theorem turnZ3 {P : Program} {w : World} {K : PySem.W.Frag} {elts : List Expr} {kk : Nat} {tpos : Pos} (n l1 l2 l3 : Nat) (st t1 t2 t3 : Bool) (n1 : l1 < n) (n2 : l2 < n) (n3 : l3 < n) :
    Turn P w K (.Tuple elts kk tpos) (Jz3 K st t1 t2 t3 l1 l2 l3) [n, n + 1, n + 2, n + 3, n + 4, n + 5] (n + 5) (fun i h => Z3 h n st t1 t2 t3 l1 l2 l3 i) where
  mem := by simp
  obj := fun i h D b hb => by
    obtain ⟨dz, dti, ⟨wa, wb, wc, dto⟩, d1, d2, d3⟩ := D
    have hb' : b = n ∨ b = n + 1 ∨ b = n + 2 ∨ b = n + 3 ∨ b = n + 4 ∨ b = n + 5 := by simpa using hb
    rcases hb' with rfl | rfl | rfl | rfl | rfl | rfl
    · exact d1.obj
    · exact d2.obj
    · exact d3.obj
    · exact ⟨_, dti, fun v z => nomatch z⟩
    · exact ⟨_, dto, fun v z => nomatch z⟩
    · exact ⟨_, dz, fun v z => nomatch z⟩
  keep := fun i h h' D k => ⟨k (n + 5) (by simp) _ D.z, k (n + 3) (by simp) _ D.ti, (let ⟨wa, wb, wc, q⟩ := D.to; ⟨wa, wb, wc, k (n + 4) (by simp) _ q⟩), D.i1.at fun o q => k n (by simp) o q, D.i2.at fun o q => k (n + 1) (by simp) o q, D.i3.at fun o q => k (n + 2) (by simp) o q⟩
  item := by
    intro X hP hw hK hc i pins s σ H E I hf D hg
    subst hP hw hK
    obtain ⟨xs, ys, zs, x, y, v, q0, g0, q1, g1, q2, g2⟩ := hg
    obtain ⟨is0, rv0, p0⟩ := sq_ob I q0
    obtain ⟨is1, rv1, p1⟩ := sq_ob I q1
    obtain ⟨is2, rv2, p2⟩ := sq_ob I q2
    obtain ⟨u0, hu0, ru0⟩ := rv0.get g0
    obtain ⟨u1, hu1, ru1⟩ := rv1.get g1
    obtain ⟨u2, hu2, ru2⟩ := rv2.get g2
    refine z3_next D n1 n2 n3 p0 p1 p2 (by simpa using hu0) (by simpa using hu1) (by simpa using hu2) fun h' az ati ato ai0 ai1 ai2 aT asz ak => ?_
    refine ⟨_, rfl, ?_⟩
    refine letGoZ (s := { s with heap := h' }) az fun h2 bz sb => ?_
    have hzl : (n + 5) < s.heap.objs.size := Heap.lt_size D.z
    have k2 : ∀ (b : Nat) o, b ≠ (n + 5) → h'.get? b = some o → h2.get? b = some o := fun b o q e => sb.extBut b o q e
    have T2 : TupO h2 s.heap.objs.size #[u0, u1, u2] := k2 _ _ (Nat.ne_of_gt hzl) aT
    have new : ObjOk X.prog X.w (upd H s.heap.objs.size (.tup [x, y, v])) h2 s.heap.objs.size (.tup [x, y, v]) :=
      ⟨by show 3 ≤ sizeLine; decide, [u0, u1, u2], .cons ru0 (.cons ru1 (.cons ru2 .nil)), ⟨_, T2, rfl, _, rfl⟩⟩
    have I1 : L2.Inv X pins σ (upd H s.heap.objs.size (.tup [x, y, v])) { s with heap := h2 } :=
      I.turnedNew (t' := s.toks) (ch := [n, n + 1, n + 2, n + 3, n + 4, n + 5]) (fun b o hb q => k2 b o (fun z => hb (by simp [z])) (ak b o hb q)) hf (Nat.le_refl _) new
    refine ⟨.ref s.heap.objs.size, _, I1, rfl, ⟨_, x, y, v, rfl, I.hok.fresh (Nat.le_refl _), rfl, fun us hus => by rw [sq_inj I hus q0]; exact g0, fun us hus => by rw [sq_inj I hus q1]; exact g1, fun us hus => by rw [sq_inj I hus q2]; exact g2⟩, ⟨bz, k2 _ _ (by omega) ati, ⟨_, _, _, k2 _ _ (by omega) ato⟩, ai0.at fun o q => k2 _ o (by omega) q, ai1.at fun o q => k2 _ o (by omega) q, ai2.at fun o q => k2 _ o (by omega) q⟩, fun b hb => ?_⟩
    have hlt : b < s.heap.objs.size := by
      have hob : ∃ o, s.heap.get? b = some o ∧ ∀ v, o.data ≠ .cell v := by
        obtain ⟨dz, dti, ⟨wa, wb, wc, dto⟩, d1, d2, d3⟩ := D
        have hb' : b = n ∨ b = n + 1 ∨ b = n + 2 ∨ b = n + 3 ∨ b = n + 4 ∨ b = n + 5 := by simpa using hb
        rcases hb' with rfl | rfl | rfl | rfl | rfl | rfl
        · exact d1.obj
        · exact d2.obj
        · exact d3.obj
        · exact ⟨_, dti, fun v z => nomatch z⟩
        · exact ⟨_, dto, fun v z => nomatch z⟩
        · exact ⟨_, dz, fun v z => nomatch z⟩
      obtain ⟨o, ho, _⟩ := hob
      exact Heap.lt_size ho
    rw [upd_ne (Nat.ne_of_lt hlt)]
    exact (hf b hb).1
  done := by
    intro X hP hw hK hc i pins s σ H E I hf D hg
    subst hP hw hK
    obtain ⟨xs, ys, zs, q0, q1, q2, hend⟩ := hg
    obtain ⟨is0, rv0, p0⟩ := sq_ob I q0
    obtain ⟨is1, rv1, p1⟩ := sq_ob I q1
    obtain ⟨is2, rv2, p2⟩ := sq_ob I q2
    have e0 := rv0.length
    have e1 := rv1.length
    have e2 := rv2.length
    refine z3_stop (I.ok.hd hc) D n1 n2 n3 p0 p1 p2 ?_ fun h' ak => ⟨rfl, I.turnedL (t' := s.toks) (ch := [n, n + 1, n + 2, n + 3, n + 4, n + 5]) (fun b o hb q => ak b o hb q) hf⟩
    cases st with
    | true =>
      obtain ⟨g0, g1, g2⟩ : xs.length ≤ i ∧ ys.length ≤ i ∧ zs.length ≤ i := hend
      exact ⟨by simp; omega, by simp; omega, by simp; omega⟩
    | false =>
      have hend : xs.length ≤ i ∨ ys.length ≤ i ∨ zs.length ≤ i := hend
      show is0.toArray[i]? = none ∨ is1.toArray[i]? = none ∨ is2.toArray[i]? = none
      rcases hend with g | g | g
      · exact .inl (by simp; omega)
      · exact .inr (.inl (by simp; omega))
      · exact .inr (.inr ((by simp; omega)))
  self := fun A i s Q E D h => iterZ D.z h

end
end DL


set_option Elab.async false
set_option linter.all false
set_option maxRecDepth 100000
set_option maxHeartbeats 2000000
/-! DL9: enumerate of a list or a tuple. -/
namespace DL
open PySem PySem.Spec PyProof.Rows L2
open PySem.Builtin.SmallTypes (nextOf nextOrEnd)
abbrev EnuO (h : Heap) (e it : Addr) (i : Int) (old f0 : Value) : Prop :=
  h.get? e = some { cls := .type "enumerate", dict := none, data := .fields #[f0, .bool false, .ref it, rawInt i, .none, old], slots := #[] }
section
variable {prog : Program} {w : World} {A : Around} {E : Value → Shared → Prop} {s : Shared} {t : Bool} {e it l : Nat} {i : Nat} {items : Array Value}
theorem enuItem {x old : Value} {Q : Value → Shared → Prop} (he : EnuO s.heap e it i old .none) (hit : SIt s.heap t it l i) (hl : SOb s.heap t l items) (hx : items[i]? = some x) (hne : e ≠ it)
    (hQ : ∀ h', EnuO h' e it ((i : Int) + 1) x (rawInt s.heap.objs.size) → SIt h' t it l (i + 1) → TupO h' s.heap.objs.size #[.int i s.toks, x] → h'.objs.size = s.heap.objs.size + 1 →
      (∀ b o, b ≠ e → b ≠ it → s.heap.get? b = some o → h'.get? b = some o) → Q (.ref s.heap.objs.size) { s with heap := h', toks := s.toks + 1 }) :
    wpAny (model prog w) A (Builtin.«enumerate.__next__» ⟨[.ref e], []⟩) (fun fin s' => ∃ v, fin = .done (.ret v) ∧ Q v s') E s := by
  obtain ⟨hp, g, d, tk, os⟩ := s
  refine (show wpAny _ _ (field (.ref e) 2 >>= _) _ _ _ from wpAny_bind (wpAny_field he rfl (x := .ref it) rfl ?_))
  refine wpAny_bind (nextS hit hl hx fun h1 it1 s1 => ?_)
  have k1 : ∀ (b : Nat) o, b ≠ it → hp.get? b = some o → h1.get? b = some o := fun b o q z => s1.extBut b o q z
  have e1 : EnuO h1 e it i old .none := k1 e _ hne he
  refine (show wpAny _ _ (field (.ref e) 3 >>= _) _ _ ⟨h1, g, d, tk, os⟩ from wpAny_bind (wpAny_field e1 rfl (x := rawInt i) rfl ?_))
  refine (show wpAny _ _ (field (.ref e) 4 >>= _) _ _ ⟨h1, g, d, tk, os⟩ from wpAny_bind (wpAny_field e1 rfl (x := .none) rfl ?_))
  refine (show wpAny _ _ (mkInt i >>= _) _ _ ⟨h1, g, d, tk, os⟩ from wpAny_bind (wpAny_mkInt ?_))
  refine (show wpAny _ _ (setField (.ref e) 3 (rawInt ((i : Int) + 1)) >>= _) _ _ ⟨h1, g, d, tk + 1, os⟩ from wpAny_bind (wpAny_setField_rec e1 (by simp) fun h2 e2 s2 => ?_))
  replace e2 : EnuO h2 e it ((i : Int) + 1) old .none := e2
  refine (show wpAny _ _ (setField (.ref e) 4 .none >>= _) _ _ ⟨h2, g, d, tk + 1, os⟩ from wpAny_bind (wpAny_setField_rec e2 (by simp) fun h3 e3 s3 => ?_))
  replace e3 : EnuO h3 e it ((i : Int) + 1) old .none := e3
  refine (show wpAny _ _ (newTuple [.int i tk, x] >>= _) _ _ ⟨h3, g, d, tk + 1, os⟩ from wpAny_bind (wpAny_newTuple ?_))
  have hsz : h3.objs.size = hp.objs.size := by rw [s3.1, s2.1, s1.1]
  have up : ∀ {b : Addr} {u : Obj}, h3.get? b = some u → (h3.push (tuO #[.int i tk, x])).get? b = some u := fun q => Heap.get?_push_of_some _ q
  have e4 : EnuO (h3.push (tuO #[.int i tk, x])) e it ((i : Int) + 1) old .none := up e3
  have k4 : ∀ (b : Nat) o, b ≠ e → h1.get? b = some o → (h3.push (tuO #[.int i tk, x])).get? b = some o := fun b o q z => up (s3.extBut b o q (s2.extBut b o q z))
  have T4 : TupO (h3.push (tuO #[.int i tk, x])) hp.objs.size #[.int i tk, x] := by
    rw [← hsz]
    exact Heap.get?_push_size _ rfl
  have hel : e < hp.objs.size := Heap.lt_size he
  refine (show wpAny _ _ (Builtin.SmallTypes.ownedTupleIsFree (.ref e) >>= _) _ _ ⟨h3.push (tuO #[.int i tk, x]), g, d, tk + 1, os⟩ from wpAny_bind ?_)
  unfold Builtin.SmallTypes.ownedTupleIsFree
  refine wpAny_bind (wpAny_field e4 rfl (x := .none) rfl (wpAny_pure ?_))
  simp only [if_true]
  refine wpAny_bind (wpAny_rule ?_)
  refine wpAny_bind (wpAny_field e4 rfl (x := old) rfl ?_)
  refine wpAny_bind (wpAny_setField_rec e4 (by simp) fun h5 e5 s5 => ?_)
  replace e5 : EnuO h5 e it ((i : Int) + 1) x .none := e5
  rw [hsz]
  refine (show wpAny _ _ (Builtin.SmallTypes.ownedTupleHandOut (.ref e) (.ref hp.objs.size) >>= _) _ _ ⟨h5, g, d, tk + 1, os⟩ from wpAny_bind ?_)
  unfold Builtin.SmallTypes.ownedTupleHandOut
  refine wpAny_bind (wpAny_setField_rec e5 (by simp) fun h6 e6 s6 => ?_)
  replace e6 : EnuO h6 e it ((i : Int) + 1) x (rawInt hp.objs.size) := e6
  refine wpAny_setField_rec e6 (by simp) fun h7 e7 s7 => ?_
  replace e7 : EnuO h7 e it ((i : Int) + 1) x (rawInt hp.objs.size) := e7
  have k7 : ∀ (b : Nat) o, b ≠ e → h1.get? b = some o → h7.get? b = some o := fun b o q z => s7.extBut b o q (s6.extBut b o q (s5.extBut b o q (k4 b o q z)))
  refine wpAny_bind (wpAny_letGo (wpAny_pure ⟨_, rfl, hQ h7 e7 (it1.at fun o q => k7 it o (Ne.symm hne) q) ?_ ?_ fun b o q1 q2 z => k7 b o q1 (k1 b o q2 z)⟩))
  · exact s7.extBut _ _ (Nat.ne_of_gt hel) (s6.extBut _ _ (Nat.ne_of_gt hel) (s5.extBut _ _ (Nat.ne_of_gt hel) T4))
  · show h7.objs.size = hp.objs.size + 1
    rw [s7.1, s6.1, s5.1, Heap.size_push, hsz]
theorem enuNext {x old : Value} {Q : Option Value → Shared → Prop} (he : EnuO s.heap e it i old .none) (hit : SIt s.heap t it l i) (hl : SOb s.heap t l items) (hx : items[i]? = some x) (hne : e ≠ it)
    (hQ : ∀ h', EnuO h' e it ((i : Int) + 1) x (rawInt s.heap.objs.size) → SIt h' t it l (i + 1) → TupO h' s.heap.objs.size #[.int i s.toks, x] → h'.objs.size = s.heap.objs.size + 1 →
      (∀ b o, b ≠ e → b ≠ it → s.heap.get? b = some o → h'.get? b = some o) → Q (some (.ref s.heap.objs.size)) { s with heap := h', toks := s.toks + 1 }) : wpAny (model prog w) A (pyNext (.ref e)) Q E s := by
  have hT : s.TypeIs (.ref e) "enumerate" := ⟨_, he, rfl⟩
  unfold pyNext
  refine wpAny_bind (wpAny_attempt (wpAny_callSpecial?_slot (name := Str.ofString "__next__") hT F.slot_enumerate_next (wpAny_call_entry F.slot_enumerate_next hT F.entry_enumerate_next ?_ (F.args_enumerate_next_1 _))))
  exact enuItem he hit hl hx hne fun h' a b c d k => wpAny_pure (hQ h' a b c d k)
theorem enuStop {old : Value} {Q : Option Value → Shared → Prop} (hh : A.handled = none) (he : EnuO s.heap e it i old .none) (hit : SIt s.heap t it l i) (hl : SOb s.heap t l items) (hx : items[i]? = none)
    (hQ : ∀ h', (∀ b o, b ≠ it → s.heap.get? b = some o → h'.get? b = some o) → Q none { s with heap := h' }) : wpAny (model prog w) A (pyNext (.ref e)) Q E s := by
  have hT : s.TypeIs (.ref e) "enumerate" := ⟨_, he, rfl⟩
  unfold pyNext
  refine wpAny_bind (wpAny_attempt (wpAny_callSpecial?_slot (name := Str.ofString "__next__") hT F.slot_enumerate_next (wpAny_call_entry F.slot_enumerate_next hT F.entry_enumerate_next ?_ (F.args_enumerate_next_1 _))))
  refine (show wpAny _ _ (field (.ref e) 2 >>= _) _ _ _ from wpAny_bind (wpAny_field he rfl (x := .ref it) rfl ?_))
  refine wpAny_bind (nextE hh hit hl hx fun h' e' k ho => ?_)
  obtain ⟨o, ho, hc⟩ := ho
  exact wpAny_bind (wpAny_isInstance (T := "StopIteration") (b := true) ⟨o, ho, hc⟩ isSubtype_stop (wpAny_pure (hQ _ k)))
theorem letGoE {elts : List Expr} {x1 : Nat} {pos : Pos} {T : Addr} {j : Int} {old : Value} {Q : Unit → Shared → Prop} (he : EnuO s.heap e it j old (rawInt T)) (hQ : ∀ h', EnuO h' e it j old .none → Heap.SameBut e s.heap h' → Q () { s with heap := h' }) :
    wpAny (model prog w) A (letOwnedTupleGo (.Tuple elts x1 pos) (.ref e) (.ref T)) Q E s := by
  unfold letOwnedTupleGo
  refine wpAny_bind (wpAny_load he ?_)
  refine (show wpAny _ _ (if ((["enumerate", "zip", "dict_itemiterator", "dict_reverseitemiterator", "odict_iterator", "itertools.zip_longest", "itertools.pairwise"] : List String).contains "enumerate" && ((#[rawInt T, .bool false, .ref it, rawInt j, .none, old] : Array Value)[0]? == some (rawInt T))) = true then _ else _) Q E s from ?_)
  rw [if_pos (by simp)]
  refine wpAny_bind (wpAny_rule ?_)
  exact (show wpAny _ _ (setField (.ref e) 0 .none) Q E s from wpAny_setField_rec he (by simp) fun h' a b => hQ h' a b)
theorem iterE {j : Int} {old f0 : Value} {Q : Value → Shared → Prop} (he : EnuO s.heap e it j old f0) (h : Q (.ref e) s) : wpAny (model prog w) A (pyIter (.ref e)) Q E s := by
  have hT : s.TypeIs (.ref e) "enumerate" := ⟨_, he, rfl⟩
  refine wpAny_pyIter_slot hT F.slot_enumerate_iter (wpAny_call_entry F.slot_enumerate_iter hT F.entry_enumerate_iter ?_ (F.args_enumerate_iter_1 _))
  exact (show wpAny _ _ (ret (.ref e)) _ _ s from wpAny_pure ⟨_, rfl, "enumerate", _, hT, F.slot_enumerate_next.lookup, h⟩)
end
theorem enuNew (t : Bool) (l : Nat) (items : Array Value) :
    Meets (Builtin.«enumerate.__new__» ⟨[.type "enumerate", .ref l], []⟩) (fun _ R s => SOb s.heap t l items ∧
      R (.ok (.ret (.ref (s.heap.push (itO t l)).objs.size))) { s with heap := (s.heap.push (itO t l)).push { cls := .type "enumerate", data := .fields #[.none, .bool false, .ref s.heap.objs.size, rawInt 0, .none, .none] } }) :=
  .of_wp fun prog w A R s h => by
    obtain ⟨hp, g, d, tk, os⟩ := s
    obtain ⟨hl, h⟩ := h
    have hsub := sub_enumerate
    have b1 : SOb (Shared.heap ⟨hp, g, d, tk, os⟩) t l items := hl
    wp_walk
    refine wpAny_stack_any fun st => wpAny_pure ?_
    split
    · rename_i c _ _ _ _ _
      cases (c == Value.type "enumerate")
      · wp_walk using iterS b1
        exact ⟨_, rfl, h⟩
      · wp_walk using iterS b1
        exact ⟨_, rfl, h⟩
    · wp_walk using iterS b1
      exact ⟨_, rfl, h⟩
section
variable {prog : Program} {w : World} {A : Around} {E : Value → Shared → Prop} {s : Shared} {t : Bool} {l : Nat} {items : Array Value}
theorem callEnu {Q : Value → Shared → Prop} (hl : SOb s.heap t l items)
    (h : ∀ h', EnuO h' (s.heap.objs.size + 1) s.heap.objs.size 0 .none .none → SIt h' t s.heap.objs.size l 0 → h'.objs.size = s.heap.objs.size + 2 → (∀ b o, s.heap.get? b = some o → h'.get? b = some o) → Q (.ref (s.heap.objs.size + 1)) { s with heap := h' }) :
    wpAny (model prog w) A (call (.type "enumerate") [.ref l]) Q E s := by
  refine callType_new F.called_enumerate (by decide) (F.typeCall_enumerate_1 _) (F.newCall_enumerate_1 _) (fun obj => F.args_object_init_2 obj _) F.entry_enumerate_new (enuNew t l items) ⟨hl, ?_⟩
  have hz : (s.heap.push (itO t l)).objs.size = s.heap.objs.size + 1 := Heap.size_push ..
  have up : ∀ {h : Heap} {o u : Obj} {b : Addr}, h.get? b = some u → (h.push o).get? b = some u := fun q => Heap.get?_push_of_some _ q
  have he : EnuO ((s.heap.push (itO t l)).push { cls := .type "enumerate", data := .fields #[.none, .bool false, .ref s.heap.objs.size, rawInt 0, .none, .none] }) (s.heap.objs.size + 1) s.heap.objs.size 0 .none .none := by
    rw [EnuO, ← hz]
    exact Heap.get?_push_size _ rfl
  show _ ∧ _
  rw [hz]
  exact ⟨⟨_, he, rfl⟩, h _ he (SIt.new (up (Heap.get?_push_size _ rfl))) (by rw [Heap.size_push, hz]) fun b o q => up (up q)⟩
end
/-- what enumerate walks -/
def Jen (K : PySem.W.Frag) (t : Bool) (l : Nat) : L2.It :=
  ⟨fun i H => ∃ (xs : List V) (x : V), Sq K H t l xs ∧ xs[i]? = some x,
    fun i H r H' => ∃ (T : Addr) (x : V), r = .ref T ∧ H T = none ∧ H' = upd H T (.tup [.int i, x]) ∧ ∀ us, Sq K H t l us → us[i]? = some x,
    fun i H => ∃ xs : List V, Sq K H t l xs ∧ xs.length ≤ i⟩
theorem turnE {P : Program} {w : World} {K : PySem.W.Frag} {elts : List Expr} {kk : Nat} {tpos : Pos} (n l : Nat) (t : Bool) (hl : l < n) :
    Turn P w K (.Tuple elts kk tpos) (Jen K t l) [n, n + 1] (n + 1) (fun i h => (∃ old, EnuO h (n + 1) n i old .none) ∧ SIt h t n l i) where
  mem := by simp
  obj := fun i h D b hb => by
    obtain ⟨⟨old, de⟩, d1⟩ := D
    have hb' : b = n ∨ b = n + 1 := by simpa using hb
    rcases hb' with rfl | rfl
    · exact d1.obj
    · exact ⟨_, de, fun v z => nomatch z⟩
  keep := fun i h h' D k => ⟨(let ⟨old, q⟩ := D.1; ⟨old, k (n + 1) (by simp) _ q⟩), D.2.at fun o q => k n (by simp) o q⟩
  item := by
    intro X hP hw hK hc i pins s σ H E I hf D hg
    subst hP hw hK
    obtain ⟨xs, x, q0, g0⟩ := hg
    obtain ⟨is0, rv0, p0⟩ := sq_ob I q0
    obtain ⟨u0, hu0, ru0⟩ := rv0.get g0
    obtain ⟨⟨old, de⟩, d1⟩ := D
    refine enuNext de d1 p0 (by simpa using hu0) (by omega) fun h' az ai0 aT asz ak => ?_
    refine ⟨_, rfl, ?_⟩
    refine letGoE (s := { s with heap := h', toks := s.toks + 1 }) az fun h2 bz sb => ?_
    have hzl : n + 1 < s.heap.objs.size := Heap.lt_size de
    have hnl : n < s.heap.objs.size := d1.lt
    have k2 : ∀ (b : Nat) o, b ≠ n + 1 → h'.get? b = some o → h2.get? b = some o := fun b o q e => sb.extBut b o q e
    have T2 : TupO h2 s.heap.objs.size #[.int i s.toks, u0] := k2 _ _ (Nat.ne_of_gt hzl) aT
    have new : ObjOk X.prog X.w (upd H s.heap.objs.size (.tup [.int i, x])) h2 s.heap.objs.size (.tup [.int i, x]) :=
      ⟨by show 2 ≤ sizeLine; decide, [.int i s.toks, u0], .cons ⟨_, rfl⟩ (.cons ru0 .nil), ⟨_, T2, rfl, _, rfl⟩⟩
    have I1 : L2.Inv X pins σ (upd H s.heap.objs.size (.tup [.int i, x])) { s with heap := h2, toks := s.toks + 1 } :=
      I.turnedNew (t' := s.toks + 1) (ch := [n, n + 1]) (fun b o hb q => k2 b o (fun z => hb (by simp [z])) (ak b o (fun z => hb (by simp [z])) (fun z => hb (by simp [z])) q)) hf (Nat.le_refl _) new
    refine ⟨.ref s.heap.objs.size, _, I1, rfl, ⟨_, x, rfl, I.hok.fresh (Nat.le_refl _), rfl, fun us hus => by rw [sq_inj I hus q0]; exact g0⟩, ⟨⟨_, bz⟩, ai0.at fun o q => k2 _ o (by omega) q⟩, fun b hb => ?_⟩
    have hlt : b < s.heap.objs.size := by
      have hb' : b = n ∨ b = n + 1 := by simpa using hb
      rcases hb' with rfl | rfl
      · exact hnl
      · exact hzl
    rw [upd_ne (Nat.ne_of_lt hlt)]
    exact (hf b hb).1
  done := by
    intro X hP hw hK hc i pins s σ H E I hf D hg
    subst hP hw hK
    obtain ⟨xs, q0, hend⟩ := hg
    obtain ⟨is0, rv0, p0⟩ := sq_ob I q0
    have e0 := rv0.length
    obtain ⟨⟨old, de⟩, d1⟩ := D
    exact enuStop (I.ok.hd hc) de d1 p0 (by simp; omega) fun h' ak => ⟨rfl, I.turnedL (t' := s.toks) (ch := [n, n + 1]) (fun b o hb q => ak b o (fun z => hb (by simp [z])) q) hf⟩
  self := fun A i s Q E D h => (let ⟨old, q⟩ := D.1; iterE q h)
end DL


set_option Elab.async false
set_option linter.all false
set_option maxRecDepth 100000
set_option maxHeartbeats 2000000
/-! DL10: frames again (rebasing), targets, what a def promises, the static checks. -/
namespace DL
open PySem PySem.Spec PyProof.Rows L2

section
variable {K : PySem.W.Frag} {xo : XO} {B : FB} {F F' H H' : Hp} {σ σ' : L2.St} {e e' : Env}
/-- a list is written: the tables stand -/
theorem tabs_lst {T : List (Addr × Str)} {H : Hp} {a : Addr} {vs vs' : List V} (ha : H a = some (.lst vs)) (t : LamX.Tabs T H) : LamX.Tabs T (upd H a (.lst vs')) := fun p hp => by
  obtain ⟨ps, h1, h2, h3⟩ := t p hp
  have ne : ∀ {b : Addr} {u : HO}, H b = some u → (∀ xs, u ≠ .lst xs) → upd H a (.lst vs') b = some u := fun {b u} e n => by
    have z : b ≠ a := fun w => by rw [w, ha] at e; exact n _ (Option.some.inj e).symm
    rw [upd_ne z]; exact e
  refine ⟨ps, ne h1 (fun xs e => nomatch e), h2, fun pos cv hc => ?_⟩
  obtain ⟨c, e1, e2⟩ := h3 pos cv hc
  exact ⟨c, e1, ne e2 (fun xs e => by unfold LamX.CodeO at e; cases e)⟩
/-- the ground as it stands now: all that is tracked but the lists of one's own is kept -/
def FB.now (B : FB) (F H : Hp) (σ : L2.St) (e : Env) : FB := ⟨H, F, fun a => ∃ (i : Nat) (p : Bool) (ds : List D), e[i]? = some (.own p ds) ∧ σ[i]? = some (some (.ref a)), B.pa⟩
theorem Rel.now (r : Rel K xo B F σ H e) : Rel K xo (B.now F H σ e) F σ H e where
  sub := r.sub
  sub0 := Same.refl _
  new := fun a q => .inl q
  hpa := fun a q => fun z => r.hpa a q (r.h0 z)
  keep := fun a o q _ _ => q
  tbk := fun a ps q => ⟨ps, q⟩
  tabs := r.tabs
  ob := fun a ⟨i, p, ds, h1, h2⟩ => by
    obtain ⟨a', vs, g1, g2, _⟩ := r.own i p ds h1
    rw [g1] at h2
    injection h2 with h2
    injection h2 with h2
    injection h2 with h2
    rw [← h2, g2]
    exact fun z => nomatch z
  len := r.len
  val := r.val
  own := fun i p ds q => by
    obtain ⟨a, vs, g1, g2, g3, g4, g5, g6⟩ := r.own i p ds q
    exact ⟨a, vs, g1, g2, g3, g4, .inl ⟨i, p, ds, q, g1⟩, g6⟩
  sep := r.sep
/-- .. and back again -/
theorem Rel.back (r : Rel K xo B F σ H e) (r' : Rel K xo (B.now F H σ e) F' σ' H' e') : Rel K xo B F' σ' H' e' where
  sub := r'.sub
  sub0 := r.sub0.trans r'.sub0
  new := fun a q => by
    rcases r'.new a q with z | z | ⟨⟨i, p, ds, h1, h2⟩, z⟩
    · exact r.new a z
    · exact .inr (.inl (r.h0 z))
    · obtain ⟨a', vs, g1, g2, g3, g4, g5, g6⟩ := r.own i p ds h1
      rw [g1] at h2
      injection h2 with h2
      injection h2 with h2
      injection h2 with h2
      subst h2
      rcases g5 with g5 | g5
      · exact .inr (.inr ⟨g5, z⟩)
      · exact .inr (.inl g5)
  hpa := r.hpa
  tbk := fun a ps q => by
    obtain ⟨ps', e⟩ := r.tbk a ps q
    exact r'.tbk a ps' e
  tabs := r'.tabs
  keep := fun a o q z t => by
    refine r'.keep a o (r.keep a o q z t) (fun hm => ?_) t
    obtain ⟨i, p, ds, h1, h2⟩ := hm
    obtain ⟨a', vs, g1, g2, g3, g4, g5, g6⟩ := r.own i p ds h1
    rw [g1] at h2
    injection h2 with h2
    injection h2 with h2
    injection h2 with h2
    subst h2
    rcases g5 with g5 | g5
    · exact z g5
    · rw [g5] at q; cases q
  ob := fun a hm => by
    by_cases z : (B.now F H σ e).M a
    · exact r'.ob a z
    · cases q : H a with
      | none => exact absurd q (r.ob a hm)
      | some o =>
        by_cases t : ∃ ps, o = .tbl ps
        · obtain ⟨ps, rfl⟩ := t
          obtain ⟨ps', e⟩ := r'.tbk a ps q
          rw [e]
          exact fun z => nomatch z
        · rw [r'.keep a o q z (fun ps e => t ⟨ps, e⟩)]
          exact fun z => nomatch z
  len := r'.len
  val := r'.val
  own := fun i p ds q => by
    obtain ⟨a, vs, g1, g2, g3, g4, g5, g6⟩ := r'.own i p ds q
    refine ⟨a, vs, g1, g2, g3, g4, ?_, g6⟩
    rcases g5 with ⟨j, p', ds', h1, h2⟩ | g5
    · obtain ⟨a', vs', k1, k2, k3, k4, k5, k6⟩ := r.own j p' ds' h1
      rw [k1] at h2
      injection h2 with h2
      injection h2 with h2
      injection h2 with h2
      rw [← h2]
      exact k5
    · exact .inr (r.h0 g5)
  sep := r'.sep

theorem getSet {α : Type} {l : List α} {i j : Nat} {x y : α} (h : (l.set i x)[j]? = some y) : (i = j ∧ y = x) ∨ (i ≠ j ∧ l[j]? = some y) := by
  by_cases z : i = j
  · subst z
    by_cases hl : i < l.length
    · rw [List.getElem?_set_self hl] at h
      exact .inl ⟨rfl, (Option.some.inj h).symm⟩
    · rw [List.getElem?_eq_none (by simpa using hl)] at h
      cases h
  · rw [List.getElem?_set_ne z] at h
    exact .inr ⟨z, h⟩
/-- a slot gets data -/
theorem Rel.setVal (r : Rel K xo B F σ H e) {i : Nat} {v : V} {d : D} (x : Den K xo F v d) : Rel K xo B F (σ.set i (some v)) H (e.set i (.val d)) where
  sub := r.sub
  sub0 := r.sub0
  new := r.new
  hpa := r.hpa
  keep := r.keep
  tbk := r.tbk
  tabs := r.tabs
  ob := r.ob
  len := by rw [List.length_set, List.length_set]; exact r.len
  val := fun j d' q => by
    rcases getSet q with ⟨rfl, z⟩ | ⟨z, q⟩
    · injection z with z
      subst z
      have hi : i < σ.length := by
        rw [r.len]
        have := (List.getElem?_eq_some_iff.mp q).1
        simpa using this
      exact ⟨v, List.getElem?_set_self hi, x⟩
    · obtain ⟨v', g1, g2⟩ := r.val j d' q
      exact ⟨v', by rw [List.getElem?_set_ne z]; exact g1, g2⟩
  own := fun j p ds q => by
    rcases getSet q with ⟨_, z⟩ | ⟨z, q⟩
    · cases z
    · obtain ⟨a, vs, g1, g2⟩ := r.own j p ds q
      exact ⟨a, vs, by rw [List.getElem?_set_ne z]; exact g1, g2⟩
  sep := fun j k a p q ds es h1 h2 h3 h4 => by
    rcases getSet h1 with ⟨_, z⟩ | ⟨z1, h1⟩
    · cases z
    · rcases getSet h2 with ⟨_, z⟩ | ⟨z2, h2⟩
      · cases z
      · rw [List.getElem?_set_ne z1] at h3
        rw [List.getElem?_set_ne z2] at h4
        exact r.sep j k a p q ds es h1 h2 h3 h4
/-- a slot gets a list of its own -/
theorem Rel.setOwn (r : Rel K xo B F σ H e) {i : Nat} {p : Addr} {vs : List V} {ds : List D} (hp : H p = some (.lst vs)) (hF : F p = none) (x : DenAll K xo F vs ds) (h0 : B.mine p)
    (ho : ∀ (j : Nat) pp es, e[j]? = some (.own pp es) → σ[j]? ≠ some (some (.ref p))) : Rel K xo B F (σ.set i (some (.ref p))) H (e.set i (.own false ds)) where
  sub := r.sub
  sub0 := r.sub0
  new := r.new
  hpa := r.hpa
  keep := r.keep
  tbk := r.tbk
  tabs := r.tabs
  ob := r.ob
  len := by rw [List.length_set, List.length_set]; exact r.len
  val := fun j d' q => by
    rcases getSet q with ⟨_, z⟩ | ⟨z, q⟩
    · cases z
    · obtain ⟨v', g1, g2⟩ := r.val j d' q
      exact ⟨v', by rw [List.getElem?_set_ne z]; exact g1, g2⟩
  own := fun j pp es q => by
    rcases getSet q with ⟨rfl, z⟩ | ⟨z, q⟩
    · injection z with z1 z2
      subst z1 z2
      have hi : i < σ.length := by
        rw [r.len]
        have := (List.getElem?_eq_some_iff.mp q).1
        simpa using this
      exact ⟨p, vs, List.getElem?_set_self hi, hp, hF, x, h0.elim .inr fun z => .inl z.1, (fun z => nomatch z), fun z => (h0.elim (fun y => absurd y (r.hpa p z)) fun y => absurd z y.2)⟩
    · obtain ⟨a, vs', g1, g2⟩ := r.own j pp es q
      exact ⟨a, vs', by rw [List.getElem?_set_ne z]; exact g1, g2⟩
  sep := fun j k a pj pk ds' es h1 h2 h3 h4 => by
    rcases getSet h1 with ⟨rfl, _⟩ | ⟨z1, h1⟩
    · rcases getSet h2 with ⟨e1, _⟩ | ⟨z2, h2⟩
      · exact e1
      · rw [List.getElem?_set_ne z2] at h4
        rcases getSet h3 with ⟨_, z⟩ | ⟨z, _⟩
        · injection z with z
          injection z with z
          subst z
          exact absurd h4 (ho k pk es h2)
        · exact absurd rfl z
    · rcases getSet h2 with ⟨rfl, _⟩ | ⟨z2, h2⟩
      · rw [List.getElem?_set_ne z1] at h3
        rcases getSet h4 with ⟨_, z⟩ | ⟨z, _⟩
        · injection z with z
          injection z with z
          subst z
          exact absurd h3 (ho j pj ds' h1)
        · exact absurd rfl z
      · rw [List.getElem?_set_ne z1] at h3
        rw [List.getElem?_set_ne z2] at h4
        exact r.sep j k a pj pk ds' es h1 h2 h3 h4
/-- a slot is forgotten -/
theorem Rel.forget (r : Rel K xo B F σ H e) (i : Nat) : Rel K xo B F σ H (e.set i .un) where
  sub := r.sub
  sub0 := r.sub0
  new := r.new
  hpa := r.hpa
  keep := r.keep
  tbk := r.tbk
  tabs := r.tabs
  ob := r.ob
  len := by rw [List.length_set]; exact r.len
  val := fun j d' q => by
    rcases getSet q with ⟨_, z⟩ | ⟨_, q⟩
    · cases z
    · exact r.val j d' q
  own := fun j pp es q => by
    rcases getSet q with ⟨_, z⟩ | ⟨_, q⟩
    · cases z
    · exact r.own j pp es q
  sep := fun j k a pj pk ds' es h1 h2 h3 h4 => by
    rcases getSet h1 with ⟨_, z⟩ | ⟨_, h1⟩
    · cases z
    · rcases getSet h2 with ⟨_, z⟩ | ⟨_, h2⟩
      · cases z
      · exact r.sep j k a pj pk ds' es h1 h2 h3 h4
/-- a list of one's own is written -/
theorem Rel.write (r : Rel K xo B F σ H e) {i : Nat} {p : Bool} {ds ds' : List D} {a : Addr} {vs' : List V} (q : e[i]? = some (.own p ds)) (ha : σ[i]? = some (some (.ref a))) (x : DenAll K xo F vs' ds') :
    Rel K xo B F σ (upd H a (.lst vs')) (e.set i (.own p ds')) := by
  obtain ⟨a', vs, g1, g2, g3, g4, g5, g6⟩ := r.own i p ds q
  have ea : a' = a := by
    rw [g1] at ha
    injection ha with ha
    injection ha with ha
    injection ha
  subst ea
  have hi : i < e.length := (List.getElem?_eq_some_iff.mp q).1
  refine ⟨fun b o z => ?_, r.sub0, r.new, r.hpa, fun b o z1 z2 z3 => ?_, fun b ps z => ?_, ⟨tabs_lst g2 r.tabs.t, r.tabs.nt⟩, fun b z => ?_, by rw [List.length_set]; exact r.len, fun j d z => ?_, fun j pp es z => ?_, fun j k b pj pk ds1 es h1 h2 h3 h4 => ?_⟩
  · have ne : b ≠ a' := fun w => by rw [w, g3] at z; cases z
    rw [upd_ne ne]; exact r.sub b o z
  · have ne : b ≠ a' := fun w => by
      subst w
      rcases g5 with g5 | g5
      · exact z2 g5
      · rw [g5] at z1; cases z1
    rw [upd_ne ne]; exact r.keep b o z1 z2 z3
  · obtain ⟨ps', e⟩ := r.tbk b ps z
    have ne : b ≠ a' := fun w => by rw [w, g2] at e; cases e
    exact ⟨ps', by rw [upd_ne ne]; exact e⟩
  · by_cases w : b = a'
    · subst w; rw [upd_same]; exact fun w => nomatch w
    · rw [upd_ne w]; exact r.ob b z
  · rcases getSet z with ⟨_, w⟩ | ⟨_, z⟩
    · cases w
    · exact r.val j d z
  · rcases getSet z with ⟨rfl, w⟩ | ⟨w, z⟩
    · injection w with w1 w2
      subst w1 w2
      exact ⟨a', vs', g1, upd_same, g3, x, g5, g6⟩
    · obtain ⟨b, us, k1, k2, k3, k4, k5, k6⟩ := r.own j pp es z
      have ne : b ≠ a' := fun y => by
        subst y
        exact w (r.sep i j b p pp ds es q z ha k1)
      exact ⟨b, us, k1, by rw [upd_ne ne]; exact k2, k3, k4, k5, k6⟩
  · have old : ∀ {j : Nat} {pj : Bool} {ds1 : List D}, (e.set i (.own p ds'))[j]? = some (.own pj ds1) → ∃ pp es, e[j]? = some (.own pp es) := fun {j pj ds1} h => by
      rcases getSet h with ⟨rfl, _⟩ | ⟨_, h⟩
      · exact ⟨p, ds, q⟩
      · exact ⟨_, _, h⟩
    obtain ⟨p1, e1, q1⟩ := old h1
    obtain ⟨p2, e2, q2⟩ := old h2
    exact r.sep j k b p1 p2 e1 e2 q1 q2 h3 h4
end

/-- behind a def's call: what stood before is kept, but the list handed in as its own -/
structure Fin' (K : PySem.W.Frag) (xo : XO) (F H : Hp) (oa : Option Addr) (o' : List D) (F' H' : Hp) : Prop where
  subF : Same F F'
  sub : Same F' H'
  new : ∀ a, F' a ≠ none → F a ≠ none ∨ H a = none
  keep : ∀ a o, H a = some o → oa ≠ some a → (∀ ps, o ≠ .tbl ps) → H' a = some o
  tbk : ∀ a ps, H a = some (.tbl ps) → ∃ ps', H' a = some (.tbl ps')
  tabs : TabN xo.T F' H'
  own : ∀ a, oa = some a → ∃ ws, H' a = some (.lst ws) ∧ F' a = none ∧ DenAll K xo F' ws o'
/-- frozen, no table -/
def SameN (F H : Hp) : Prop := Same F H ∧ ∀ a ps, F a ≠ some (.tbl ps)
/-- what a def promises -/
def PostF (K : PySem.W.Frag) (xo : XO) (mg : Str → Option Value) (F H : Hp) (oa : Option Addr) (r : FR) (Q : VK) (E : XK) : Prop := match r with
  | .ret (.d d) o' => ∀ v H' F', Fin' K xo F H oa o' F' H' → Den K xo F' v d → Q v H'
  | .ret (.fr ds) o' => ∀ p vs H' F', Fin' K xo F H oa o' F' H' → H' p = some (.lst vs) → F' p = none → DenAll K xo F' vs ds → H p = none → Q (.ref p) H'
  | .exn c ps o' => ∀ cls dx H' F', Fin' K xo F H oa o' F' H' → ExW K xo mg c ps cls dx H' F' → E cls dx H'
  | .bad => False
def spFn (K : PySem.W.Frag) (xo : XO) (mg : Str → Option Value) (f : Fn) : Sp := fun vs H Q E => vs.length = f.np ∧ LamX.Tabs xo.T H ∧ ∃ F, SameN F H ∧
  ((f.own = false ∧ ∃ ds, DenAll K xo F vs ds ∧ PostF K xo mg F H none (f.run [] ds) Q E) ∨
   (f.own = true ∧ ∃ a us ws o ds, vs = .ref a :: us ∧ H a = some (.lst ws) ∧ F a = none ∧ DenAll K xo F ws o ∧ DenAll K xo F us ds ∧ PostF K xo mg F H (some a) (f.run o ds) Q E))

section
variable {K : PySem.W.Frag} {xo : XO} {mg : Str → Option Value} {W : WX} {B : FB} {F F' H H' : Hp} {σ : L2.St} {e : Env}
theorem Rel.called (r : Rel K xo B F σ H e) {o' : List D} (x : Fin' K xo F H none o' F' H') : Rel K xo B F' σ H' e where
  sub := x.sub
  sub0 := r.sub0.trans x.subF
  new := fun a q => by
    rcases x.new a q with z | z
    · exact r.new a z
    · exact .inr (.inl (r.h0 z))
  hpa := r.hpa
  keep := fun a o q z t => x.keep a o (r.keep a o q z t) (fun w => nomatch w) t
  tbk := fun a ps q => by
    obtain ⟨ps', e⟩ := r.tbk a ps q
    exact x.tbk a ps' e
  tabs := x.tabs
  ob := fun a z => by
    cases q : H a with
    | none => exact absurd q (r.ob a z)
    | some o =>
      by_cases t : ∃ ps, o = .tbl ps
      · obtain ⟨ps, rfl⟩ := t
        obtain ⟨ps', e⟩ := x.tbk a ps q
        rw [e]; exact fun w => nomatch w
      · rw [x.keep a o q (fun w => nomatch w) (fun ps e => t ⟨ps, e⟩)]; exact fun w => nomatch w
  len := r.len
  val := fun i d q => by
    obtain ⟨v, g1, g2⟩ := r.val i d q
    exact ⟨v, g1, g2.mono x.subF⟩
  own := fun i p ds q => by
    obtain ⟨a, vs, g1, g2, g3, g4, g5⟩ := r.own i p ds q
    refine ⟨a, vs, g1, x.keep a _ g2 (fun w => nomatch w) (fun ps e => nomatch e), ?_, g4.mono x.subF, g5⟩
    cases z : F' a with
    | none => rfl
    | some o =>
      rcases x.new a (by rw [z]; exact fun w => nomatch w) with w | w
      · exact absurd g3 w
      · rw [g2] at w; cases w
  sep := r.sep
theorem Rel.calledO (r : Rel K xo B F σ H e) {i : Nat} {p : Bool} {o o' : List D} {a : Addr} (q : e[i]? = some (.own p o)) (ha : σ[i]? = some (some (.ref a))) (x : Fin' K xo F H (some a) o' F' H') : Rel K xo B F' σ H' (e.set i (.own p o')) := by
  obtain ⟨a', vs, g1, g2, g3, g4, g5, g6⟩ := r.own i p o q
  have ea : a' = a := by
    rw [g1] at ha
    injection ha with ha
    injection ha with ha
    injection ha
  subst ea
  obtain ⟨ws, k1, k2, k3⟩ := x.own a' rfl
  refine ⟨x.sub, r.sub0.trans x.subF, fun b z => ?_, r.hpa, fun b u z1 z2 z3 => ?_, fun b ps z => ?_, x.tabs, fun b z => ?_, by rw [List.length_set]; exact r.len, fun j d z => ?_, fun j pp es z => ?_, fun j k b pj pk ds1 es h1 h2 h3 h4 => ?_⟩
  · rcases x.new b z with w | w
    · exact r.new b w
    · exact .inr (.inl (r.h0 w))
  · refine x.keep b u (r.keep b u z1 z2 z3) (fun w => ?_) z3
    injection w with w
    subst w
    rcases g5 with g5 | g5
    · exact z2 g5
    · rw [g5] at z1; cases z1
  · obtain ⟨ps', e⟩ := r.tbk b ps z
    exact x.tbk b ps' e
  · by_cases w : a' = b
    · subst w; rw [k1]; exact fun w => nomatch w
    · cases y : H b with
      | none => exact absurd y (r.ob b z)
      | some u =>
        by_cases t : ∃ ps, u = .tbl ps
        · obtain ⟨ps, rfl⟩ := t
          obtain ⟨ps', e⟩ := x.tbk b ps y
          rw [e]; exact fun w => nomatch w
        · rw [x.keep b u y (fun v => by injection v with v; exact w v) (fun ps e => t ⟨ps, e⟩)]; exact fun w => nomatch w
  · rcases getSet z with ⟨_, w⟩ | ⟨_, z⟩
    · cases w
    · obtain ⟨v, m1, m2⟩ := r.val j d z
      exact ⟨v, m1, m2.mono x.subF⟩
  · rcases getSet z with ⟨rfl, w⟩ | ⟨w, z⟩
    · injection w with w1 w2
      subst w1 w2
      exact ⟨a', ws, g1, k1, k2, k3, g5, g6⟩
    · obtain ⟨b, us, m1, m2, m3, m4, m5⟩ := r.own j pp es z
      have ne : a' ≠ b := fun y => by
        subst y
        exact w (r.sep i j a' p pp o es q z ha m1)
      refine ⟨b, us, m1, x.keep b _ m2 (fun v => by injection v with v; exact ne v) (fun ps e => nomatch e), ?_, m4.mono x.subF, m5⟩
      cases y : F' b with
      | none => rfl
      | some u =>
        rcases x.new b (by rw [y]; exact fun w => nomatch w) with v | v
        · exact absurd m3 v
        · rw [m2] at v; cases v
  · have old : ∀ {j : Nat} {pj : Bool} {ds1 : List D}, (e.set i (.own p o'))[j]? = some (.own pj ds1) → ∃ pp es, e[j]? = some (.own pp es) := fun {j pj ds1} h => by
      rcases getSet h with ⟨rfl, _⟩ | ⟨_, h⟩
      · exact ⟨p, o, q⟩
      · exact ⟨_, _, h⟩
    obtain ⟨p1, e1, q1⟩ := old h1
    obtain ⟨p2, e2, q2⟩ := old h2
    exact r.sep j k b p1 p2 e1 e2 q1 q2 h3 h4
end
end DL


set_option Elab.async false
set_option linter.all false
set_option maxRecDepth 100000
set_option maxHeartbeats 2000000
/-! DL11: what a loop walks (lists, tuples, ranges, reversed, zip, enumerate), by data. -/
namespace DL
open PySem PySem.Spec PyProof.Rows L2

/-- J walks these data, over a frozen part F -/
def Wk (K : PySem.W.Frag) (xo : XO) (J : L2.It) (F : Hp) (ds : List D) : Prop := ∀ {B : FB} {F1 : Hp} {σ : L2.St} {H : Hp} {e : Env}, Same F F1 → Rel K xo B F1 σ H e →
  (∀ (i : Nat) d, ds[i]? = some d → J.go i H ∧ ∀ x H', J.yld i H x H' → ∃ F', Same F1 F' ∧ Rel K xo B F' σ H' e ∧ Den K xo F' x d) ∧ J.stop ds.length H

section
variable {K : PySem.W.Frag} {xo : XO} {F H : Hp}
theorem sq_mono {H H' : Hp} {t : Bool} {a : Addr} {xs : List V} (s : Same H H') (h : Sq K H t a xs) : Sq K H' t a xs := by
  cases t with
  | true => exact sqt_mono s h
  | false => exact s.seq h
theorem den_items {v : V} {d : D} {ds : List D} (h : Den K xo F v d) (e : items? d = some ds) : ∃ (t : Bool) (a : Addr) (vs : List V), v = .ref a ∧ Sq K F t a vs ∧ DenAll K xo F vs ds := by
  cases h with
  | lst h r =>
    have e' := Option.some.inj e
    subst e'
    exact ⟨false, _, _, rfl, .inl (.inl h), r⟩
  | tup h r =>
    have e' := Option.some.inj e
    subst e'
    exact ⟨true, _, _, rfl, h, r⟩
  | non => cases e
  | bl _ => cases e
  | int _ => cases e
  | str _ => cases e
  | scr _ _ => cases e
  | exc0 _ _ => cases e
  | exc1 _ _ _ _ => cases e
  | dic0 _ => cases e
def Its (K : PySem.W.Frag) (t : Bool) (a : Addr) : L2.It := if t = true then Itt K a else Itl K a
theorem wk_seq {t : Bool} {a : Addr} {vs : List V} {ds : List D} (h : Sq K F t a vs) (r : DenAll K xo F vs ds) : Wk K xo (Its K t a) F ds := by
  intro B F1 σ H e s R
  have hq : Sq K H t a vs := sq_mono (s.trans R.sub) h
  refine ⟨fun i d hd => ?_, ?_⟩
  · obtain ⟨v, hv, dv⟩ := r.get hd
    cases t with
    | true => exact ⟨⟨vs, v, hq, hv⟩, fun x H' ⟨e1, e2⟩ => by
        have := e2 vs hq
        rw [hv] at this
        cases this
        subst e1
        exact ⟨F1, Same.refl _, R, dv.mono s⟩⟩
    | false => exact ⟨⟨vs, v, hq, hv⟩, fun x H' ⟨e1, e2⟩ => by
        have := e2 vs hq
        rw [hv] at this
        cases this
        subst e1
        exact ⟨F1, Same.refl _, R, dv.mono s⟩⟩
  · cases t with
    | true => exact ⟨vs, hq, Nat.le_of_eq r.length⟩
    | false => exact ⟨vs, hq, Nat.le_of_eq r.length⟩
theorem wk_rev {t : Bool} {a : Addr} {vs : List V} {ds : List D} (h : Sq K F t a vs) (r : DenAll K xo F vs ds) : Wk K xo (if t = true then RT.ItvT K a vs.length else Itv K a vs.length) F ds.reverse := by
  intro B F1 σ H e s R
  have hq : Sq K H t a vs := sq_mono (s.trans R.sub) h
  have hl := r.length
  refine ⟨fun i d hd => ?_, ?_⟩
  · have hi : i < ds.length := by
      have := (List.getElem?_eq_some_iff.mp hd).1
      simpa using this
    have hd' : ds[vs.length - 1 - i]? = some d := by
      rw [List.getElem?_reverse hi] at hd
      rw [hl]
      exact hd
    obtain ⟨v, hv, dv⟩ := r.get hd'
    cases t with
    | true => exact ⟨⟨by omega, vs, v, hq, hv⟩, fun x H' ⟨e1, e2⟩ => by
        have := e2 vs hq
        rw [hv] at this
        cases this
        subst e1
        exact ⟨F1, Same.refl _, R, dv.mono s⟩⟩
    | false => exact ⟨⟨by omega, vs, v, hq, hv⟩, fun x H' ⟨e1, e2⟩ => by
        have := e2 vs hq
        rw [hv] at this
        cases this
        subst e1
        exact ⟨F1, Same.refl _, R, dv.mono s⟩⟩
  · rw [List.length_reverse, ← hl]
    cases t with
    | true => exact Nat.le_refl _
    | false => exact Nat.le_refl _
theorem rngI_len (a : Int) : ∀ n : Nat, (rngI a n).length = n
  | 0 => rfl
  | n + 1 => congrArg (· + 1) (rngI_len (a + 1) n)
theorem rngI_get (a : Int) : ∀ (n i : Nat) (d : D), (rngI a n)[i]? = some d → i < n ∧ d = .int (a + i)
  | 0, i, d, h => by simp [rngI] at h
  | n + 1, 0, d, h => by
    have h' := Option.some.inj (show some _ = some d from h)
    exact ⟨Nat.succ_pos _, by rw [← h']; simp⟩
  | n + 1, i + 1, d, h => by
    obtain ⟨h1, h2⟩ := rngI_get (a + 1) n i d (by simpa [rngI] using h)
    refine ⟨Nat.succ_lt_succ h1, ?_⟩
    rw [h2]
    congr 1
    push_cast
    omega
theorem wk_rng (lo : Int) (n : Nat) : Wk K xo (Itr lo n) F (rngI lo n) := by
  intro B F1 σ H e s R
  refine ⟨fun i d hd => ?_, ?_⟩
  · obtain ⟨h1, h2⟩ := rngI_get lo n i d hd
    refine ⟨h1, fun x H' ⟨e1, e2⟩ => ?_⟩
    subst e1 e2 h2
    exact ⟨F1, Same.refl _, R, .int _⟩
  · rw [rngI_len]
    exact Nat.le_refl _
theorem wk_z2 {st t1 t2 : Bool} {a b : Addr} {vs us : List V} {ds es : List D} (h1 : Sq K F t1 a vs) (h2 : Sq K F t2 b us) (r1 : DenAll K xo F vs ds) (r2 : DenAll K xo F us es) (hs : st = true → ds.length = es.length) :
    Wk K xo (Jz2 K st t1 t2 a b) F (zipAll [ds, es]) := by
  intro B F1 σ H e s R
  have s2 := s.trans R.sub
  have q1 : Sq K H t1 a vs := sq_mono s2 h1
  have q2 : Sq K H t2 b us := sq_mono s2 h2
  have l1 := r1.length
  have l2 := r2.length
  refine ⟨fun i d hd => ?_, ?_⟩
  · have hd' : ((ds.zip es).map fun p => PyData.tuple [p.1, p.2])[i]? = some d := hd
    rw [List.getElem?_map] at hd'
    cases hz : (ds.zip es)[i]? with
    | none => rw [hz] at hd'; cases hd'
    | some p =>
      rw [hz] at hd'
      have hd2 := Option.some.inj hd'
      subst hd2
      obtain ⟨g1, g2⟩ := List.getElem?_zip_eq_some.mp hz
      obtain ⟨v, hv, dv⟩ := r1.get g1
      obtain ⟨u, hu, du⟩ := r2.get g2
      refine ⟨⟨vs, us, v, u, q1, hv, q2, hu⟩, ?_⟩
      rintro x H' ⟨T, v', u', e1, hT, e2, k1, k2⟩
      have := k1 vs q1
      rw [hv] at this
      cases this
      have := k2 us q2
      rw [hu] at this
      cases this
      subst e1 e2
      have sf := same_upd (o := HO.tup [v, u]) (R.f0 hT)
      exact ⟨_, sf, R.laid hT, .tup (.inl (.inl upd_same)) (.cons ((dv.mono s).mono sf) (.cons ((du.mono s).mono sf) .nil))⟩
  · have hlen : (zipAll [ds, es]).length = min ds.length es.length := by
      show ((ds.zip es).map _).length = _
      rw [List.length_map, List.length_zip]
    rw [hlen]
    refine ⟨vs, us, q1, q2, ?_⟩
    cases st with
    | true =>
      have := hs rfl
      exact ⟨by omega, by omega⟩
    | false =>
      show _ ∨ _
      omega
theorem wk_z3 {st t1 t2 t3 : Bool} {a b c : Addr} {vs us ws : List V} {ds es fs : List D} (h1 : Sq K F t1 a vs) (h2 : Sq K F t2 b us) (h3 : Sq K F t3 c ws) (r1 : DenAll K xo F vs ds) (r2 : DenAll K xo F us es) (r3 : DenAll K xo F ws fs)
    (hs : st = true → ds.length = es.length ∧ ds.length = fs.length) : Wk K xo (Jz3 K st t1 t2 t3 a b c) F (zipAll [ds, es, fs]) := by
  intro B F1 σ H e s R
  have s2 := s.trans R.sub
  have q1 : Sq K H t1 a vs := sq_mono s2 h1
  have q2 : Sq K H t2 b us := sq_mono s2 h2
  have q3 : Sq K H t3 c ws := sq_mono s2 h3
  have l1 := r1.length
  have l2 := r2.length
  have l3 := r3.length
  refine ⟨fun i d hd => ?_, ?_⟩
  · have hd' : ((ds.zip (es.zip fs)).map fun p => PyData.tuple [p.1, p.2.1, p.2.2])[i]? = some d := hd
    rw [List.getElem?_map] at hd'
    cases hz : (ds.zip (es.zip fs))[i]? with
    | none => rw [hz] at hd'; cases hd'
    | some p =>
      rw [hz] at hd'
      have hd2 := Option.some.inj hd'
      subst hd2
      obtain ⟨g1, g23⟩ := List.getElem?_zip_eq_some.mp hz
      obtain ⟨g2, g3⟩ := List.getElem?_zip_eq_some.mp g23
      obtain ⟨v, hv, dv⟩ := r1.get g1
      obtain ⟨u, hu, du⟩ := r2.get g2
      obtain ⟨w, hw, dw⟩ := r3.get g3
      refine ⟨⟨vs, us, ws, v, u, w, q1, hv, q2, hu, q3, hw⟩, ?_⟩
      rintro x H' ⟨T, v', u', w', e1, hT, e2, k1, k2, k3⟩
      have := k1 vs q1
      rw [hv] at this
      cases this
      have := k2 us q2
      rw [hu] at this
      cases this
      have := k3 ws q3
      rw [hw] at this
      cases this
      subst e1 e2
      have sf := same_upd (o := HO.tup [v, u, w]) (R.f0 hT)
      exact ⟨_, sf, R.laid hT, .tup (.inl (.inl upd_same)) (.cons ((dv.mono s).mono sf) (.cons ((du.mono s).mono sf) (.cons ((dw.mono s).mono sf) .nil)))⟩
  · have hlen : (zipAll [ds, es, fs]).length = min ds.length (min es.length fs.length) := by
      show ((ds.zip (es.zip fs)).map _).length = _
      rw [List.length_map, List.length_zip, List.length_zip]
    rw [hlen]
    refine ⟨vs, us, ws, q1, q2, q3, ?_⟩
    cases st with
    | true =>
      have := hs rfl
      exact ⟨by omega, by omega, by omega⟩
    | false =>
      show _ ∨ _ ∨ _
      omega
theorem enumD_len : ∀ (ds : List D) (n : Nat), (enumD n ds).length = ds.length
  | [], _ => rfl
  | _ :: r, n => congrArg (· + 1) (enumD_len r (n + 1))
theorem enumD_get : ∀ (ds : List D) (n i : Nat) (d : D), (enumD n ds)[i]? = some d → ∃ x, ds[i]? = some x ∧ d = .tuple [.int ((n + i : Nat) : Int), x]
  | [], n, i, d, h => by simp [enumD] at h
  | x :: r, n, 0, d, h => by
    have h' := Option.some.inj (show some _ = some d from h)
    exact ⟨x, rfl, by rw [← h']; simp⟩
  | x :: r, n, i + 1, d, h => by
    obtain ⟨y, h1, h2⟩ := enumD_get r (n + 1) i d (by simpa [enumD] using h)
    refine ⟨y, by simpa using h1, ?_⟩
    rw [h2]
    congr 3
    omega
theorem wk_en {t : Bool} {a : Addr} {vs : List V} {ds : List D} (h : Sq K F t a vs) (r : DenAll K xo F vs ds) : Wk K xo (Jen K t a) F (enumD 0 ds) := by
  intro B F1 σ H e s R
  have hq : Sq K H t a vs := sq_mono (s.trans R.sub) h
  refine ⟨fun i d hd => ?_, ?_⟩
  · obtain ⟨y, hy, ed⟩ := enumD_get ds 0 i d hd
    obtain ⟨v, hv, dv⟩ := r.get hy
    subst ed
    refine ⟨⟨vs, v, hq, hv⟩, ?_⟩
    rintro x H' ⟨T, v', e1, hT, e2, k1⟩
    have := k1 vs hq
    rw [hv] at this
    cases this
    subst e1 e2
    have sf := same_upd (o := HO.tup [.int i, v]) (R.f0 hT)
    refine ⟨_, sf, R.laid hT, .tup (.inl (.inl upd_same)) (.cons ?_ (.cons ((dv.mono s).mono sf) .nil))⟩
    rw [Nat.zero_add]
    exact .int _
  · rw [enumD_len]
    exact ⟨vs, hq, Nat.le_of_eq r.length⟩
end

/-! ### the calls -/
section
variable {X : Cx}
theorem callWith_tyKw {M : Model} {A : Around} {E : Value → Shared → Prop} {s : Shared} {env : PySem.Env} {pos : Pos} {T : String} {args : List (Bool × Sem Value)} {kws : List (Option Str × Sem Value)} {Q : Value → Shared → Prop} (hp : args.any (·.1) = false) (hk : kws.any (·.1.isNone) = false)
    (h : wpAny M A (evalArgs (.type T) true args kws) (fun a s₁ => wpAny M A (PySem.call (.type T) a.pos a.kw) Q E s₁) E s) : wpAny M A (callWith pos (.type T) [] args kws) Q E s :=
  PySem.W.callWith_of (P := fun _ => True) (by rw [hp, hk]; rfl) (fun _ _ => ⟨.machine, .inr (.inl rfl), .now⟩) (wpAny_mono h (fun _ _ x => ⟨trivial, x⟩) fun _ _ x => x)
def kwE (st : Bool) (j : Nat) (p q : Pos) : List Keyword := if st = true then [⟨some "strict", .Constant (.bool true) j p, q⟩] else []
/-- zip(..) called, of items already there -/
theorem zip_call {pins : List (Addr × Obj)} {σ : L2.St} {H : Hp} {s : Shared} {e : Expr} {es : List Expr} {ta : TA} {p pos kp kq : Pos} {kj : Nat} {st : Bool} {Q : Value → Shared → Prop} {T : List V → Hp → Prop} (hg : Gl X "zip") (hm : X.mg "zip" = none) (ha : PA X (e :: es) ta)
    (hs : starEach (e :: es) X.env = (false, eval e X.env) :: starEach es X.env) (hpl : (backTo pos (starEach es X.env)).any (·.1) = false) (I : L2.Inv X pins σ H s) (h : ta σ H T)
    (k : ∀ (us : List Value) (vs : List V) (H1 : Hp) (s1 : Shared), L2.Inv X pins σ H1 s1 → Vals vs us → T vs H1 → wpAny (model X.prog X.w) X.A (PySem.call (.type "zip") us (kwS st)) Q X.xe s1) :
    wpAny (model X.prog X.w) X.A (eval (.Call (.Name "zip" p) (e :: es) (kwE st kj kp kq) pos) X.env) Q X.xe s := by
  refine wpAny_Call_Name_kw (ld_blt I hg hm PyProof.Rows.boot_zip ?_)
  cases st with
  | false =>
    exact PyProof.Rows.callWith_type1 (thn (ha.run pos pins s σ H _ I h) fun us s1 ⟨vs, H1, I1, r1, q1⟩ => k us vs H1 s1 I1 r1 q1) hs hpl
  | true =>
    have hk : PK X (kwE true kj kp kq) (tCons (tC (.bl true)) tNil) := pk_cons pe_bl pk_nil
    rw [show backTo pos (starEach (e :: es) X.env) = (false, eval e X.env) :: backTo pos (starEach es X.env) by rw [hs]; rfl]
    refine callWith_tyKw (env := X.env) (by show (false || _) = false; rw [hpl]; rfl) rfl ?_
    refine PyProof.Rows.evalArgs_kwB rfl ?_
    have h2 := ha.run pos pins s σ H _ I h
    rw [show backTo pos (starEach (e :: es) X.env) = (false, eval e X.env) :: backTo pos (starEach es X.env) by rw [hs]; rfl] at h2
    refine thn h2 fun us s1 ⟨vs, H1, I1, r1, q1⟩ => ?_
    refine thn (hk.run pos pins s1 σ H1 (fun zs H2 => zs = [.bl true] ∧ H2 = H1) I1 ⟨rfl, rfl⟩) fun ws s2 ⟨zs, H2, I2, r2, ez, eh⟩ => ?_
    subst ez eh
    cases r2 with
    | cons r rr =>
      cases rr
      cases r
      exact k us vs H2 s2 I2 r1 q1
end
end DL


set_option Elab.async false
set_option linter.all false
set_option maxRecDepth 100000
set_option maxHeartbeats 2000000
/-! DL12: for .. in zip(..), in enumerate(..). -/
namespace DL
open PySem PySem.Spec PyProof.Rows L2

section
variable {prog : Program} {w : World} {A : Around} {E : Value → Shared → Prop} {s : Shared}
theorem call_z2 {st t1 t2 : Bool} {a b : Nat} {xs ys : Array Value} {Q : Value → Shared → Prop} (o1 : SOb s.heap t1 a xs) (o2 : SOb s.heap t2 b ys)
    (h : ∀ h', Z2 h' s.heap.objs.size st t1 t2 a b 0 → (∀ c o, s.heap.get? c = some o → h'.get? c = some o) → Q (.ref (s.heap.objs.size + 4)) { s with heap := h' }) :
    wpAny (model prog w) A (call (.type "zip") [.ref a, .ref b] (kwS st)) Q E s := by
  refine callZip (zct2 st _ _) (zcn2 st _ _) (fun obj => zai st _ (.inl rfl)) (zipNew2 st t1 t2 a b xs ys) ⟨o1, o2, fun h' hz hti hto h1 h2 hsz hk => ?_⟩
  exact ⟨⟨_, hz, rfl⟩, h h' ⟨hz, hti, ⟨_, _, hto⟩, h1, h2⟩ hk⟩
theorem call_z3 {st t1 t2 t3 : Bool} {a b c : Nat} {xs ys zs : Array Value} {Q : Value → Shared → Prop} (o1 : SOb s.heap t1 a xs) (o2 : SOb s.heap t2 b ys) (o3 : SOb s.heap t3 c zs)
    (h : ∀ h', Z3 h' s.heap.objs.size st t1 t2 t3 a b c 0 → (∀ c o, s.heap.get? c = some o → h'.get? c = some o) → Q (.ref (s.heap.objs.size + 5)) { s with heap := h' }) :
    wpAny (model prog w) A (call (.type "zip") [.ref a, .ref b, .ref c] (kwS st)) Q E s := by
  refine callZip (zct3 st _ _ _) (zcn3 st _ _ _) (fun obj => zai st _ (.inr rfl)) (zipNew3 st t1 t2 t3 a b c xs ys zs) ⟨o1, o2, o3, fun h' hz hti hto h1 h2 h3 hsz hk => ?_⟩
  exact ⟨⟨_, hz, rfl⟩, h h' ⟨hz, hti, ⟨_, _, _, hto⟩, h1, h2, h3⟩ hk⟩
end
section
variable {X : Cx} {pins : List (Addr × Obj)} {σ : L2.St} {H : Hp} {s : Shared}
theorem fpNew (I : L2.Inv X pins σ H s) {l : List Addr} (h : ∀ c ∈ l, s.heap.objs.size ≤ c) : ∀ c ∈ l, FpOk X pins H c := fun c hc => I.fpOk (h c hc) (I.hok.fresh (h c hc))
def iZ2 (K : PySem.W.Frag) (st : Bool) (ta : TA) : TI := fun σ H R => ta σ H fun vs H1 => ∃ (a b : Nat) (t1 t2 : Bool) (xs ys : List V), vs = [.ref a, .ref b] ∧ Sq K H1 t1 a xs ∧ Sq K H1 t2 b ys ∧ R (Jz2 K st t1 t2 a b) H1
def iZ3 (K : PySem.W.Frag) (st : Bool) (ta : TA) : TI := fun σ H R => ta σ H fun vs H1 => ∃ (a b c : Nat) (t1 t2 t3 : Bool) (xs ys zs : List V), vs = [.ref a, .ref b, .ref c] ∧ Sq K H1 t1 a xs ∧ Sq K H1 t2 b ys ∧ Sq K H1 t3 c zs ∧ R (Jz3 K st t1 t2 t3 a b c) H1
def iEn (K : PySem.W.Frag) (ta : TA) : TI := fun σ H R => ta σ H fun vs H1 => ∃ (a : Nat) (t : Bool) (xs : List V), vs = [.ref a] ∧ Sq K H1 t a xs ∧ R (Jen K t a) H1
variable {e e2 e3 : Expr} {ta : TA} {p pos tpos kp kq : Pos} {elts : List Expr} {kk kj : Nat} {st : Bool}
theorem pi_z2 (hg : Gl X "zip") (hm : X.mg "zip" = none) (ha : PA X [e, e2] ta) (hs : starEach [e, e2] X.env = (false, eval e X.env) :: starEach [e2] X.env) (hpl : (backTo pos (starEach [e2] X.env)).any (·.1) = false) :
    PI X (.Tuple elts kk tpos) (.Call (.Name "zip" p) [e, e2] (kwE st kj kp kq) pos) (iZ2 X.K st ta) := by
  refine ⟨fun pins s σ H R I h => ?_⟩
  refine zip_call hg hm ha hs hpl I h fun us vs H1 s1 I1 r1 q1 => ?_
  obtain ⟨a, b, t1, t2, xs, ys, ev, q0, q1, q⟩ := q1
  subst ev
  cases r1 with
  | cons r rr =>
    cases rr with
    | cons r' rr =>
      cases rr
      cases r
      cases r'
      obtain ⟨i1, rv1, p1⟩ := sq_ob I1 q0
      obtain ⟨i2, rv2, p2⟩ := sq_ob I1 q1
      refine call_z2 p1 p2 fun h' D hk => iterZ D.z ?_
      have I2 : L2.Inv X pins σ H1 { s1 with heap := h' } := I1.kept (t' := s1.toks) hk
      have n1 : a < s1.heap.objs.size := p1.lt
      have n2 : b < s1.heap.objs.size := p2.lt
      exact ⟨_, _, _, _, H1, rfl, I2, turnZ2 s1.heap.objs.size a b st t1 t2 n1 n2, D, fun c hc => (by
        have hle : s1.heap.objs.size ≤ c := by
          have e' : c = s1.heap.objs.size ∨ c = s1.heap.objs.size + 1 ∨ c = s1.heap.objs.size + 2 ∨ c = s1.heap.objs.size + 3 ∨ c = s1.heap.objs.size + 4 := by simpa using hc
          rcases e' with z | z | z | z | z <;> rw [z] <;> first | exact Nat.le_refl _ | exact Nat.le_add_right _ _
        exact I1.fpOk hle (I1.hok.fresh hle)), q⟩
theorem pi_z3 (hg : Gl X "zip") (hm : X.mg "zip" = none) (ha : PA X [e, e2, e3] ta) (hs : starEach [e, e2, e3] X.env = (false, eval e X.env) :: starEach [e2, e3] X.env) (hpl : (backTo pos (starEach [e2, e3] X.env)).any (·.1) = false) :
    PI X (.Tuple elts kk tpos) (.Call (.Name "zip" p) [e, e2, e3] (kwE st kj kp kq) pos) (iZ3 X.K st ta) := by
  refine ⟨fun pins s σ H R I h => ?_⟩
  refine zip_call hg hm ha hs hpl I h fun us vs H1 s1 I1 r1 q1 => ?_
  obtain ⟨a, b, c, t1, t2, t3, xs, ys, zs, ev, q0, q1, q2, q⟩ := q1
  subst ev
  cases r1 with
  | cons r rr =>
    cases rr with
    | cons r' rr =>
      cases rr with
      | cons r'' rr =>
        cases rr
        cases r
        cases r'
        cases r''
        obtain ⟨i1, rv1, p1⟩ := sq_ob I1 q0
        obtain ⟨i2, rv2, p2⟩ := sq_ob I1 q1
        obtain ⟨i3, rv3, p3⟩ := sq_ob I1 q2
        refine call_z3 p1 p2 p3 fun h' D hk => iterZ D.z ?_
        have I2 : L2.Inv X pins σ H1 { s1 with heap := h' } := I1.kept (t' := s1.toks) hk
        have n1 : a < s1.heap.objs.size := p1.lt
        have n2 : b < s1.heap.objs.size := p2.lt
        have n3 : c < s1.heap.objs.size := p3.lt
        exact ⟨_, _, _, _, H1, rfl, I2, turnZ3 s1.heap.objs.size a b c st t1 t2 t3 n1 n2 n3, D, fun c hc => (by
          have hle : s1.heap.objs.size ≤ c := by
            have e' : c = s1.heap.objs.size ∨ c = s1.heap.objs.size + 1 ∨ c = s1.heap.objs.size + 2 ∨ c = s1.heap.objs.size + 3 ∨ c = s1.heap.objs.size + 4 ∨ c = s1.heap.objs.size + 5 := by simpa using hc
            rcases e' with z | z | z | z | z | z <;> rw [z] <;> first | exact Nat.le_refl _ | exact Nat.le_add_right _ _
          exact I1.fpOk hle (I1.hok.fresh hle)), q⟩
theorem boot_en : bootBuiltins "enumerate" = some (.type "enumerate") := by decide +kernel
theorem pi_en (hg : Gl X "enumerate") (hm : X.mg "enumerate" = none) (ha : PA X [e] ta) (hs : starEach [e] X.env = (false, eval e X.env) :: starEach [] X.env) :
    PI X (.Tuple elts kk tpos) (.Call (.Name "enumerate" p) [e] [] pos) (iEn X.K ta) := by
  refine ⟨fun pins s σ H R I h => ?_⟩
  refine Call_ (ld_blt I hg hm boot_en (PyProof.Rows.callWith_type1 (thn (ha.run pos pins s σ H _ I h) fun us s1 ⟨vs, H1, I1, r1, q1⟩ => ?_) hs rfl))
  obtain ⟨a, t, xs, ev, q0, q⟩ := q1
  subst ev
  cases r1 with
  | cons r rr =>
    cases rr
    cases r
    obtain ⟨i1, rv1, p1⟩ := sq_ob I1 q0
    refine callEnu p1 fun h' D hi hsz hk => iterE D ?_
    have I2 : L2.Inv X pins σ H1 { s1 with heap := h' } := I1.kept (t' := s1.toks) hk
    have n1 : a < s1.heap.objs.size := p1.lt
    exact ⟨_, _, _, _, H1, rfl, I2, turnE s1.heap.objs.size a t n1, ⟨⟨_, D⟩, hi⟩, fun c hc => (by
      have hle : s1.heap.objs.size ≤ c := by
        have e' : c = s1.heap.objs.size ∨ c = s1.heap.objs.size + 1 := by simpa using hc
        rcases e' with z | z <;> rw [z] <;> first | exact Nat.le_refl _ | exact Nat.le_add_right _ _
      exact I1.fpOk hle (I1.hok.fresh hle)), q⟩
end
end DL


set_option Elab.async false
set_option linter.all false
set_option maxRecDepth 100000
set_option maxHeartbeats 4000000
/-! DLX: an exception that was caught is held as a value; isinstance of it. -/
namespace DL
open PySem PySem.Spec PyProof.Rows L2

/-- an exception's object, held as a value; d: its dict -/
def ExD (cls : Value) (d : Option Addr) (a : Addr) : HO := .ext fun g => ∃ (ob : Obj) (fs : Array Value), g.get? a = some ob ∧ Zc cls d ob ∧ ob.data = .fields fs
abbrev ExP (cls : Value) (a : Addr) : HO := ExD cls none a
theorem exP_there {P : Program} {w : World} {H : Hp} {g : Heap} {a : Addr} {cls : Value} {d0 : Option Addr} {ob : Obj} {fs : Array Value} (e : g.get? a = some ob) (z : Zc cls d0 ob) (d : ob.data = .fields fs) : ObjOk P w H g a (ExD cls d0 a) :=
  ⟨⟨ob, fs, e, z, d⟩, ⟨ob, e⟩, fun _ _ ⟨o, v, q, r⟩ k => ⟨o, v, k o q, r⟩⟩
theorem exP_at {P : Program} {w : World} {H : Hp} {g : Heap} {a b : Addr} {cls : Value} {d0 : Option Addr} (x : ObjOk P w H g a (ExD cls d0 b)) : b = a ∧ ∃ (ob : Obj) (fs : Array Value), g.get? a = some ob ∧ Zc cls d0 ob ∧ ob.data = .fields fs := by
  obtain ⟨⟨ob, fs, e, z, d⟩, _, st⟩ := x
  obtain ⟨G, g1, g2⟩ := restrict g fun c => decide (c = a)
  obtain ⟨o2, f2, e2, _⟩ := st g G ⟨ob, fs, e, z, d⟩ fun o q => (g1 a (decide_eq_true rfl)).trans q
  by_cases hb : b = a
  · subst hb
    exact ⟨rfl, ob, fs, e, z, d⟩
  · rw [g2 b (decide_eq_false hb)] at e2
    cases e2

section
variable {X : Cx} {pins : List (Addr × Obj)} {σ : L2.St} {H : Hp} {s : Shared}
/-- an object that is there, new since the entry, is tracked from now on -/
theorem track {a : Addr} {ob : Obj} {fs : Array Value} {cls : Value} {d0 : Option Addr} (I : Inv X pins σ H s) (e : s.heap.get? a = some ob) (z : Zc cls d0 ob) (d : ob.data = .fields fs) (na : H a = none) (n0 : X.s_0.heap.get? a = none) (nL : a ≠ X.env.locals) (np : ∀ p ∈ X.pn ++ pins, p.1 ≠ a) :
    Inv X pins σ (upd H a (ExD cls d0 a)) s := by
  have B := I.base
  refine ⟨I.ok, I.os, I.bare, ⟨B.keep, B.slot, fun b o q n hx => ?_, B.there, fun b xs q => ?_, fun b o u q => ?_, fun b ps q => ?_⟩, I.loc, I.cell, ?_, fun x c q => ?_, fun p hp => ?_, fun b u q => ?_, I.len⟩
  · rw [upd_ne fun y => by rw [y, n0] at q; cases q]
    exact B.free b o q n hx
  · have q2 := B.tups b xs q
    rw [upd_ne (ne_of_none q2 na)]
    exact q2
  · have q2 := B.frzs b o u q
    rw [upd_ne (ne_of_none q2 na)]
    exact q2
  · obtain ⟨m, q2⟩ := B.tbls b ps q
    exact ⟨m, by rw [upd_ne (ne_of_none q2 na)]; exact q2⟩
  · rw [upd_ne (Ne.symm nL)]
    exact I.free
  · rw [upd_ne fun y => ?_]
    · exact I.freeC x c q
    · obtain ⟨v, o, ho, hd⟩ := I.cell x c q
      rw [y, e] at ho
      cases ho
      rw [d] at hd
      cases hd
  · obtain ⟨q1, q2, q3⟩ := I.pin p hp
    exact ⟨q1, by rw [upd_ne (np p hp)]; exact q2, q3⟩
  · by_cases hb : b = a
    · subst hb
      rw [upd_same] at q
      cases q
      exact exP_there e z d
    · rw [upd_ne hb] at q
      exact (I.hok b u q).stay (fun c v _ y => y) (fun c y => by rw [upd_ne (ne_of_none y na)]; exact y) fun c xs y => by rw [upd_ne (ne_of_none y na)]; exact y
end

/-- isinstance(x, c), x None or a held exception -/
def rIsX (K : PySem.W.Frag) : List V → Hp → VK → Prop := fun xs H Q => ∃ (x c : V) (u : Value) (b : Bool), xs = [x, c] ∧ ClsV c u ∧
  ((x = .non ∧ PySem.W.kitOne K (.type "NoneType") u = some b) ∨ ∃ (a D a' : Addr), x = .ref a ∧ H a = some (ExP (.ref D) a') ∧ ExcC K D ∧ PySem.W.kitOne K (.ref D) u = some b) ∧ Q (.bl b) H
theorem call_isX {X : Cx} : CallR X (.builtin "isinstance") (rIsX X.K) := by
  intro pins s σ H xs us Q I r h
  obtain ⟨x, c, u, b, rfl, k, hx, q⟩ := h
  obtain ⟨u1, u2, rfl, r1, r2⟩ := vals2 r
  have e2 := k.eq r2
  subst e2
  rcases hx with ⟨rfl, e⟩ | ⟨a, D, a', rfl, ha, C, e⟩
  · cases (show u1 = Value.none from r1)
    exact PySem.W.kia_one PySem.W.kitx_none I.kIn True.intro e (fun z => nomatch z) fun tk => ⟨.bl b, H, I.tok tk, rfl, q⟩
  · cases (show u1 = Value.ref a from r1)
    obtain ⟨_, ob, fs, e1, z, d⟩ := exP_at (I.hok a _ ha)
    have J : PySem.W.InstAt s.heap a ob D none := by
      obtain ⟨oc, od, oda, osl⟩ := ob
      obtain ⟨h1, h2⟩ := z
      dsimp only at h1 h2 d
      subst h1 h2 d
      exact ⟨e1, rfl, rfl, trivial⟩
    exact PySem.W.kia_one (PySem.W.handS_kitx_exc C.hg C.hk C.hs C.hd C.ha C.hn C.ht C.hm) I.kIn J e (fun z => nomatch z) fun tk => ⟨.bl b, H, I.tok tk, rfl, q⟩

/-- the wish of «except c as n: suite», the exception tracked; another wish where it keeps data -/
def wCat (K : PySem.W.Frag) (c : Value) (i : Nat) (ts : Addr → TS) (Wout : WX) (D : Ends) : WX := fun cls d σ H =>
  ∃ b, PySem.W.exmOne K cls c = some b ∧ (b = true → d = none ∧ ∀ a, H a = none → ts a { nx := fun σ' H' => D.nx (σ'.set i none) H', rt := D.rt, bk := fun σ' H' => D.bk (σ'.set i none) H', ct := fun σ' H' => D.ct (σ'.set i none) H' } (σ.set i (some (.ref a))) (upd H a (ExP cls a))) ∧
    (b = false → Wout cls d σ H)
/-- .. other clauses behind it; the exception is one of the class c; it is tracked with its dict -/
def wCat2 (K : PySem.W.Frag) (c : Value) (i : Nat) (ts : Addr → Value → Option Addr → TS) (D : Ends) : WX := fun cls d σ H =>
  PySem.W.exmOne K cls c = some true ∧ ∀ a, H a = none → ts a cls d { nx := fun σ' H' => D.nx (σ'.set i none) H', rt := D.rt, bk := fun σ' H' => D.bk (σ'.set i none) H', ct := fun σ' H' => D.ct (σ'.set i none) H' } (σ.set i (some (.ref a))) (upd H a (ExD cls d a))
section
variable {ts2 : Addr → Value → Option Addr → TS} {hds : List ExceptHandler} {X : Cx} {x n : Str} {c : Value} {i : Nat} {body suite : List Stmt} {b₀ : Stmt} {np pos pos' : Pos} {tb : WX → TS} {ts : Addr → TS} {Wout : WX}
theorem ps_try_cat (hex : X.ex = []) (hs : X.stack = X.env :: X.outer) (hf : X.env.frame = some X.env.locals) (hN : X.N.Nodup) (hi : X.N[i]? = some n) (hln : X.env.kindOf n = some .local) (hc : Names X x c) (tk : Takes X Wout)
    (hb : ∀ (W : WX) (pn : List (Addr × Obj)) (xe : Value → Shared → Prop), Takes (X.tr pn xe) W → PassesOwn (model X.prog X.w) X.A X.env xe → PSs (X.tr pn xe) body (tb W))
    (hsu : ∀ (a : Addr) (pn : List (Addr × Obj)), PSs (X.suite a pn) (b₀ :: suite) (ts a)) :
    PS X (.Try body [.ExceptHandler (some (.Name x np)) (some n) (b₀ :: suite) pos'] [] [] pos) (fun D σ H => tb (wCat X.K c i ts Wout D) D σ H) := by
  refine ⟨fun pins s σ H D I h => ?_⟩
  have ok := I.ok
  have hfr : X.A.frames = some (X.env :: X.outer) := by rw [ok.frames, hs]
  refine wpAny_Try_except (wpAny_mono ((hb (wCat X.K c i ts Wout D) (X.pn ++ pins) (fun e s₁ => wpAny (model X.prog X.w) X.A (noteFrame e X.env) (fun _ s₂ => wpAny (model X.prog X.w) X.A (setFlight e none) (fun _ s₃ =>
    wpAny (model X.prog X.w) X.A (handleBy e X.env [.ExceptHandler (some (.Name x np)) (some n) (b₀ :: suite) pos']) (SP X pins D) X.xe s₃) X.xe s₂) X.xe s₁) (fun u s' xx => ?_) PassesOwn.looking).run [] s σ H D (I.toTry _) h) (fun f s1 hsp => ?_) fun e s1 he => he)
  · obtain ⟨a, B, sI, pins', σ', H', cls, d, rfl, Jt, nb, up, sky, na, eos, ag, b, hm, hyes, hno⟩ := xx
    have J : Inv X pins σ' H' sI := Jt.ofTry ok
    have aB : B.get? a = none := by
      rcases sky with ⟨_, q, _⟩ | ⟨_, q, _⟩ | ⟨_, q, _⟩ <;> exact q
    show wpAny _ X.A (noteFrame (.ref a) X.env) _ _ _
    refine Sky.land Zc.steady hfr hf (by rw [← hs]; exact sky) fun g3 fl3 up3 => ?_
    have J3 : Inv X pins σ' H' { s' with heap := g3 } := J.landed nb fl3.1 (up.trans up3) eos ag
    obtain ⟨ob3, fs3, e3, z3, d3⟩ := fl3.there
    have nfr : a ∉ frs (X.env :: X.outer) := fun hmem => by
      obtain ⟨_, o', e', hnf⟩ := fl3.2.2.1.mem hmem
      rw [e3] at e'
      cases e'
      exact hnf _ d3
    have nL : a ≠ X.env.locals := fun z => nfr (List.mem_filterMap.mpr ⟨X.env, List.mem_cons_self, by rw [hf, z]⟩)
    have nI : sI.heap.get? a = none := by
      cases q : sI.heap.get? a with
      | none => rfl
      | some o =>
        rw [nb a o q (by rw [hs]; exact nfr)] at aB
        cases aB
    have n0 : a ∉ X.ex → X.s_0.heap.get? a = none := fun hx => by
      cases q : X.s_0.heap.get? a with
      | none => rfl
      | some o =>
        obtain ⟨o', q2⟩ := J.base.there a o q hx
        rw [nI] at q2
        cases q2
    have npin : ∀ p ∈ X.pn ++ pins, p.1 ≠ a := fun p hp z => by
      have q := (J.pin p hp).1
      rw [z, nI] at q
      cases q
    have ae : a ∉ X.ex := by rw [hex]; exact fun z => nomatch z
    refine wpAny_handleBy_cons (codeAny_handlers_test ?_) (by intro q; cases q)
    have LT : PySem.W.Looks (model X.prog X.w) g3 (typeOf (.ref a)) cls := fun A Q E s k q => wpAny_typeOf_ref (k _ _ e3) (by rw [z3.1]; exact q)
    have LM := PySem.W.exm_one (M := model X.prog X.w) J3.kIn LT hm
    have S0 : ∀ {h : Heap} (J : Inv X pins σ' H' { s' with heap := h }), Inv (X.suite a (X.pn ++ pins)) [] σ' H' { s' with heap := h } := fun J => ⟨J.ok.suite _ _, J.os, J.bare, J.base, J.loc, J.cell, J.free, J.freeC, fun p hp => J.pin p (by rw [List.append_nil] at hp; exact hp), J.hok, J.len⟩
    have test : ∀ {Q : Value → Shared → Prop} {E : Value → Shared → Prop}, Q c { s' with heap := g3 } → wpAny (model X.prog X.w) (X.A.mark (some (.ref a))) (eval (.Name x np) X.env) Q E { s' with heap := g3 } := fun {Q E} q => by
      obtain ⟨hg, hdbg, k | ⟨k, hv, hnn⟩⟩ := hc
      · exact ld_glob (X := X.suite a (X.pn ++ pins)) (S0 J3) hg k q hdbg
      · exact ld_blt (X := X.suite a (X.pn ++ pins)) (S0 J3) hg k hv q hnn hdbg
    refine test (LM.here ?_)
    cases b with
    | true =>
      obtain ⟨rfl, hy⟩ := hyes rfl
      refine codeAny_handlers_suite_as (HandSPX.lands_againZ fl3 fun g4 fl4 up4 => ?_)
      have J4 : Inv X pins σ' H' { s' with heap := g4 } := J.landed nb fl4.1 ((up.trans up3).trans up4) eos ag
      obtain ⟨ob4, fs4, e4, z4, d4⟩ := fl4.there
      have T4 : Inv X pins σ' (upd H' a (ExP cls a)) { s' with heap := g4 } := track J4 e4 z4 d4 na (n0 ae) nL npin
      have S4 : Inv (X.suite a (X.pn ++ pins)) [] σ' (upd H' a (ExP cls a)) { s' with heap := g4 } := ⟨T4.ok.suite _ _, T4.os, T4.bare, T4.base, T4.loc, T4.cell, T4.free, T4.freeC, fun p hp => T4.pin p (by rw [List.append_nil] at hp; exact hp), T4.hok, T4.len⟩
      refine store_ok (X := X.suite a (X.pn ++ pins)) (v := .ref a) S4 hN hi (.inl hln) rfl (fun s5 S5 => ?_) (.inr hln)
      have back : ∀ {σ6 : L2.St} {H6 : Hp} {s6 : Shared}, Inv (X.suite a (X.pn ++ pins)) [] σ6 H6 s6 → Inv X pins σ6 H6 s6 := fun S => ⟨ok, S.os, S.bare, S.base, S.loc, S.cell, S.free, S.freeC, fun p hp => S.pin p (by rw [List.append_nil]; exact hp), S.hok, S.len⟩
      refine wpAny_mono ((hsu a (X.pn ++ pins)).run [] s5 _ _ _ S5 (hy a na)) (fun f s6 hsp => ?_) (fun _ _ z => False.elim z)
      cases f with
      | next =>
        obtain ⟨σ6, H6, S6, q6⟩ := hsp
        exact gone_ok (back S6) hN hi hln fun s7 J7 => ⟨_, _, J7, q6⟩
      | brk =>
        obtain ⟨σ6, H6, S6, q6⟩ := hsp
        exact gone_ok (back S6) hN hi hln fun s7 J7 => ⟨_, _, J7, q6⟩
      | cont =>
        obtain ⟨σ6, H6, S6, q6⟩ := hsp
        exact gone_ok (back S6) hN hi hln fun s7 J7 => ⟨_, _, J7, q6⟩
      | ret u =>
        obtain ⟨v6, σ6, H6, S6, r6, q6⟩ := hsp
        exact gone_ok (back S6) hN hi hln fun s7 J7 => ⟨_, _, _, J7, r6, q6⟩
    | false =>
      show wpAny _ X.A (handleBy (.ref a) X.env []) _ _ _
      refine wpAny_handleBy_nil ?_
      obtain ⟨k1, k2, k3, oe, vs, T, oT, ts', he, hz, hd, h1, hr⟩ := id fl3
      unfold PySem.passOn
      refine wpAny_bind (wpAny_field he hd h1 ?_)
      rw [if_neg (show ¬ ((Value.ref T == Value.none) = true) from by simp)]
      have fin : wpAny (model X.prog X.w) X.A (setFlight (.ref a) X.env.frame) (fun _ s4 => wpAny (model X.prog X.w) X.A (throw (.ref a) : Sem Flow) (SP X pins D) X.xe s4) X.xe { s' with heap := g3 } := by
        rw [hf]
        exact HandSPX.setFlight_upZ fl3 fun g4 hh4 up4 => wpAny_throw (tk _ _ ⟨a, B, sI, pins, σ', H', cls, d, rfl, J, nb, (up.trans up3).trans up4, .inr (.inr (by rw [hs]; exact hh4)), na, eos, ag, hno rfl⟩)
      first
        | exact wpAny_bind (wpAny_pure (wpAny_bind fin))
        | exact wpAny_bind fin
  · cases f with
    | next =>
      obtain ⟨σ', H', Jt, q⟩ := hsp
      exact wpAny_execs_nil ⟨σ', H', Jt.ofTry ok, q⟩
    | brk =>
      obtain ⟨σ', H', Jt, q⟩ := hsp
      exact ⟨σ', H', Jt.ofTry ok, q⟩
    | cont =>
      obtain ⟨σ', H', Jt, q⟩ := hsp
      exact ⟨σ', H', Jt.ofTry ok, q⟩
    | ret u =>
      obtain ⟨v, σ', H', Jt, r, q⟩ := hsp
      exact ⟨v, σ', H', Jt.ofTry ok, r, q⟩
theorem ps_try_cat2 (hex : X.ex = []) (hs : X.stack = X.env :: X.outer) (hf : X.env.frame = some X.env.locals) (hN : X.N.Nodup) (hi : X.N[i]? = some n) (hln : X.env.kindOf n = some .local) (hc : Names X x c)
    (hb : ∀ (W : WX) (pn : List (Addr × Obj)) (xe : Value → Shared → Prop), Takes (X.tr pn xe) W → PassesOwn (model X.prog X.w) X.A X.env xe → PSs (X.tr pn xe) body (tb W))
    (hsu : ∀ (a : Addr) (pn : List (Addr × Obj)) (cls : Value) (d : Option Addr), PSs (X.suite a pn) (b₀ :: suite) (ts2 a cls d)) :
    PS X (.Try body (.ExceptHandler (some (.Name x np)) (some n) (b₀ :: suite) pos' :: hds) [] [] pos) (fun D σ H => tb (wCat2 X.K c i ts2 D) D σ H) := by
  refine ⟨fun pins s σ H D I h => ?_⟩
  have ok := I.ok
  have hfr : X.A.frames = some (X.env :: X.outer) := by rw [ok.frames, hs]
  refine wpAny_Try_except (wpAny_mono ((hb (wCat2 X.K c i ts2 D) (X.pn ++ pins) (fun e s₁ => wpAny (model X.prog X.w) X.A (noteFrame e X.env) (fun _ s₂ => wpAny (model X.prog X.w) X.A (setFlight e none) (fun _ s₃ =>
    wpAny (model X.prog X.w) X.A (handleBy e X.env (.ExceptHandler (some (.Name x np)) (some n) (b₀ :: suite) pos' :: hds)) (SP X pins D) X.xe s₃) X.xe s₂) X.xe s₁) (fun u s' xx => ?_) PassesOwn.looking).run [] s σ H D (I.toTry _) h) (fun f s1 hsp => ?_) fun e s1 he => he)
  · obtain ⟨a, B, sI, pins', σ', H', cls, d, rfl, Jt, nb, up, sky, na, eos, ag, hm, hyes⟩ := xx
    have J : Inv X pins σ' H' sI := Jt.ofTry ok
    have aB : B.get? a = none := by
      rcases sky with ⟨_, q, _⟩ | ⟨_, q, _⟩ | ⟨_, q, _⟩ <;> exact q
    show wpAny _ X.A (noteFrame (.ref a) X.env) _ _ _
    refine Sky.land Zc.steady hfr hf (by rw [← hs]; exact sky) fun g3 fl3 up3 => ?_
    have J3 : Inv X pins σ' H' { s' with heap := g3 } := J.landed nb fl3.1 (up.trans up3) eos ag
    obtain ⟨ob3, fs3, e3, z3, d3⟩ := fl3.there
    have nfr : a ∉ frs (X.env :: X.outer) := fun hmem => by
      obtain ⟨_, o', e', hnf⟩ := fl3.2.2.1.mem hmem
      rw [e3] at e'
      cases e'
      exact hnf _ d3
    have nL : a ≠ X.env.locals := fun z => nfr (List.mem_filterMap.mpr ⟨X.env, List.mem_cons_self, by rw [hf, z]⟩)
    have nI : sI.heap.get? a = none := by
      cases q : sI.heap.get? a with
      | none => rfl
      | some o =>
        rw [nb a o q (by rw [hs]; exact nfr)] at aB
        cases aB
    have n0 : a ∉ X.ex → X.s_0.heap.get? a = none := fun hx => by
      cases q : X.s_0.heap.get? a with
      | none => rfl
      | some o =>
        obtain ⟨o', q2⟩ := J.base.there a o q hx
        rw [nI] at q2
        cases q2
    have npin : ∀ p ∈ X.pn ++ pins, p.1 ≠ a := fun p hp z => by
      have q := (J.pin p hp).1
      rw [z, nI] at q
      cases q
    have ae : a ∉ X.ex := by rw [hex]; exact fun z => nomatch z
    refine wpAny_handleBy_cons (codeAny_handlers_test ?_) (by intro q; cases q)
    have LT : PySem.W.Looks (model X.prog X.w) g3 (typeOf (.ref a)) cls := fun A Q E s k q => wpAny_typeOf_ref (k _ _ e3) (by rw [z3.1]; exact q)
    have LM := PySem.W.exm_one (M := model X.prog X.w) J3.kIn LT hm
    have S0 : ∀ {h : Heap} (J : Inv X pins σ' H' { s' with heap := h }), Inv (X.suite a (X.pn ++ pins)) [] σ' H' { s' with heap := h } := fun J => ⟨J.ok.suite _ _, J.os, J.bare, J.base, J.loc, J.cell, J.free, J.freeC, fun p hp => J.pin p (by rw [List.append_nil] at hp; exact hp), J.hok, J.len⟩
    have test : ∀ {Q : Value → Shared → Prop} {E : Value → Shared → Prop}, Q c { s' with heap := g3 } → wpAny (model X.prog X.w) (X.A.mark (some (.ref a))) (eval (.Name x np) X.env) Q E { s' with heap := g3 } := fun {Q E} q => by
      obtain ⟨hg, hdbg, k | ⟨k, hv, hnn⟩⟩ := hc
      · exact ld_glob (X := X.suite a (X.pn ++ pins)) (S0 J3) hg k q hdbg
      · exact ld_blt (X := X.suite a (X.pn ++ pins)) (S0 J3) hg k hv q hnn hdbg
    refine test (LM.here ?_)
    · have hy := hyes
      refine codeAny_handlers_suite_as (HandSPX.lands_againZ fl3 fun g4 fl4 up4 => ?_)
      have J4 : Inv X pins σ' H' { s' with heap := g4 } := J.landed nb fl4.1 ((up.trans up3).trans up4) eos ag
      obtain ⟨ob4, fs4, e4, z4, d4⟩ := fl4.there
      have T4 : Inv X pins σ' (upd H' a (ExD cls d a)) { s' with heap := g4 } := track J4 e4 z4 d4 na (n0 ae) nL npin
      have S4 : Inv (X.suite a (X.pn ++ pins)) [] σ' (upd H' a (ExD cls d a)) { s' with heap := g4 } := ⟨T4.ok.suite _ _, T4.os, T4.bare, T4.base, T4.loc, T4.cell, T4.free, T4.freeC, fun p hp => T4.pin p (by rw [List.append_nil] at hp; exact hp), T4.hok, T4.len⟩
      refine store_ok (X := X.suite a (X.pn ++ pins)) (v := .ref a) S4 hN hi (.inl hln) rfl (fun s5 S5 => ?_) (.inr hln)
      have back : ∀ {σ6 : L2.St} {H6 : Hp} {s6 : Shared}, Inv (X.suite a (X.pn ++ pins)) [] σ6 H6 s6 → Inv X pins σ6 H6 s6 := fun S => ⟨ok, S.os, S.bare, S.base, S.loc, S.cell, S.free, S.freeC, fun p hp => S.pin p (by rw [List.append_nil]; exact hp), S.hok, S.len⟩
      refine wpAny_mono ((hsu a (X.pn ++ pins) cls d).run [] s5 _ _ _ S5 (hy a na)) (fun f s6 hsp => ?_) (fun _ _ z => False.elim z)
      cases f with
      | next =>
        obtain ⟨σ6, H6, S6, q6⟩ := hsp
        exact gone_ok (back S6) hN hi hln fun s7 J7 => ⟨_, _, J7, q6⟩
      | brk =>
        obtain ⟨σ6, H6, S6, q6⟩ := hsp
        exact gone_ok (back S6) hN hi hln fun s7 J7 => ⟨_, _, J7, q6⟩
      | cont =>
        obtain ⟨σ6, H6, S6, q6⟩ := hsp
        exact gone_ok (back S6) hN hi hln fun s7 J7 => ⟨_, _, J7, q6⟩
      | ret u =>
        obtain ⟨v6, σ6, H6, S6, r6, q6⟩ := hsp
        exact gone_ok (back S6) hN hi hln fun s7 J7 => ⟨_, _, _, J7, r6, q6⟩
  · cases f with
    | next =>
      obtain ⟨σ', H', Jt, q⟩ := hsp
      exact wpAny_execs_nil ⟨σ', H', Jt.ofTry ok, q⟩
    | brk =>
      obtain ⟨σ', H', Jt, q⟩ := hsp
      exact ⟨σ', H', Jt.ofTry ok, q⟩
    | cont =>
      obtain ⟨σ', H', Jt, q⟩ := hsp
      exact ⟨σ', H', Jt.ofTry ok, q⟩
    | ret u =>
      obtain ⟨v, σ', H', Jt, r, q⟩ := hsp
      exact ⟨v, σ', H', Jt.ofTry ok, r, q⟩
end
end DL


set_option Elab.async false
set_option linter.all false
set_option maxRecDepth 100000
set_option maxHeartbeats 4000000
/-! DLR: t[::-1], t a tuple. -/
namespace DL
open PySem PySem.Spec PyProof.Rows L2 HT
theorem adjust_back (n : Nat) : Builtin.Slice.sliceAdjust none none (-1) (n : Int) = ((n : Int) - 1, -1) := rfl
theorem places_back (n : Nat) : Builtin.Slice.slicePlaces ((n : Int) - 1) (-1) (-1) = n := by
  unfold Builtin.Slice.slicePlaces
  rw [if_neg (by decide)]
  by_cases h : (n : Int) - 1 > -1
  · rw [if_pos h]
    have : -(-1 : Int) = 1 := rfl
    rw [this, Int.ediv_one]
    omega
  · rw [if_neg h]
    omega
theorem fmCong {α β : Type} {f g : α → Option β} : ∀ {l : List α}, (∀ x ∈ l, f x = g x) → l.filterMap f = l.filterMap g
  | [], _ => rfl
  | x :: l, h => by rw [List.filterMap_cons, List.filterMap_cons, h x List.mem_cons_self, fmCong fun y hy => h y (List.mem_cons_of_mem _ hy)]
theorem pick_back (xs : Array Value) : ((List.range xs.size).filterMap fun (m : Nat) => xs[(((xs.size : Int) - 1) + (m : Int) * (-1)).toNat]?).toArray = xs.toList.reverse.toArray := by
  congr 1
  have e : ∀ m ∈ List.range xs.size, xs[(((xs.size : Int) - 1) + (m : Int) * (-1)).toNat]? = some (xs.toList.reverse.getD m .none) := fun m hm => by
    have hm := List.mem_range.mp hm
    have i : (((xs.size : Int) - 1) + (m : Int) * (-1)).toNat = xs.size - 1 - m := by omega
    have hl : m < xs.toList.reverse.length := by rw [List.length_reverse, Array.length_toList]; exact hm
    rw [i, List.getD_eq_getElem?_getD, List.getElem?_eq_getElem hl, Option.getD_some, List.getElem_reverse]
    have hk : xs.size - 1 - m < xs.size := by omega
    rw [Array.getElem?_eq_getElem hk]
    simp [Array.getElem_toList]
  have e2 : (List.range xs.size).filterMap (fun (m : Nat) => xs[(((xs.size : Int) - 1) + (m : Int) * (-1)).toNat]?) = (List.range xs.size).map fun m => xs.toList.reverse.getD m .none := by
    rw [← List.filterMap_eq_map]
    exact fmCong e
  rw [e2]
  refine List.ext_getElem (by simp) fun k h1 h2 => ?_
  rw [List.getElem_map, List.getElem_range, List.getD_eq_getElem?_getD, List.getElem?_eq_getElem h2]
  rfl
section
variable {prog : Program} {w : World} {A : Around} {E : Value → Shared → Prop} {s : Shared}
theorem sliceApplied_back {sl : Addr} {u : Tok} {n : Nat} {Q : Int × Int × Nat → Shared → Prop} (hs : s.heap.IsSliceOf sl .none .none (.int (-1) u)) (h : Q ((n : Int) - 1, -1, n) s) : wpAny (model prog w) A (Builtin.Slice.sliceApplied (.ref sl) (pure (n : Int))) Q E s := by
  obtain ⟨os, hos, hcs, hds⟩ := id hs
  unfold Builtin.Slice.sliceApplied Builtin.Slice.sliceFields
  refine wpAny_bind (wpAny_bind (wpAny_field hos hds (x := .none) rfl (wpAny_bind (wpAny_field hos hds (x := .none) rfl (wpAny_bind (wpAny_field hos hds (x := .int (-1) u) rfl (wpAny_pure ?_)))))))
  refine wpAny_bind (slicePart_ (.int (-1) u) ?_)
  show wpAny _ _ (if ((-1 : Int) == 0) = true then _ else _) _ _ s
  rw [if_neg (by decide)]
  refine wpAny_bind (slicePart_ .none (wpAny_bind (slicePart_ .none (wpAny_bind (wpAny_pure ?_)))))
  show wpAny _ _ (match Builtin.Slice.sliceAdjust none none (-1) (n : Int) with | (lo, hi) => pure (lo, (-1 : Int), Builtin.Slice.slicePlaces lo hi (-1))) _ _ s
  rw [adjust_back n]
  show wpAny _ _ (pure ((n : Int) - 1, (-1 : Int), Builtin.Slice.slicePlaces ((n : Int) - 1) (-1) (-1))) _ _ s
  rw [places_back]
  exact wpAny_pure h
theorem getItem_tuple_back {t sl : Addr} {items : Array Value} {u : Tok} {Q : Value → Shared → Prop} (ht : IsTup s.heap t items) (hs : s.heap.IsSliceOf sl .none .none (.int (-1) u))
    (h : Q (.ref s.heap.objs.size) { s with heap := s.heap.push { cls := .type "tuple", data := .seq items.toList.reverse.toArray } }) (hsz : items.size ≤ sizeLine) : wpAny (model prog w) A (getItem (.ref t) (.ref sl)) Q E s := by
  have hrev : sizeOk (.seq items.toList.reverse.toArray) := by
    show items.toList.reverse.toArray.size ≤ sizeLine
    rw [List.size_toArray, List.length_reverse, Array.length_toList]
    exact hsz
  obtain ⟨os, hos, hcs, hds⟩ := id hs
  have hTs : s.TypeIs (.ref sl) "slice" := ⟨os, hos, hcs⟩
  unfold getItem
  try with_reducible refine wpAny_holding ?_
  first | refine wpAny_bind (wpAny_pure ?_) | skip
  refine wpAny_bind (wpAny_sequenceKey ht.typeIs (by decide) ?_)
  refine wpAny_bind (wpAny_callSpecial?_slot (name := Str.ofString "__getitem__") ht.typeIs PyProof.Rows.slot_tuple_getitem (wpAny_call_entry PyProof.Rows.slot_tuple_getitem ht.typeIs entry_tuple_getitem ?_ (args_tuple_getitem _ _)))
  show wpAny _ _ (Builtin.Tuple.tupleItemsOf (.ref t) >>= _) _ _ s
  refine wpAny_bind (tupleItemsOf_ ht (wpAny_bind (wpAny_typeOf hTs ?_)))
  rw [if_pos (by decide)]
  refine wpAny_bind (sliceApplied_back (n := items.size) hs ?_)
  have hno : ¬ (((((items.size : Int) - 1) == 0 && (-1 : Int) == 1) && items.size == items.size) = true) := by simp
  show wpAny _ _ (if ((((items.size : Int) - 1) == 0 && (-1 : Int) == 1) && items.size == items.size) = true then _ else _) _ _ s
  rw [if_neg hno, pick_back]
  first
    | exact wpAny_bind (m := Builtin.Tuple.tupleExact _) (wpAny_newObj_type (wpAny_pure ⟨_, rfl, wpAny_pure h⟩) hrev)
    | exact wpAny_bind (m := Builtin.Tuple.tupleExact _) (wpAny_newObj_type (wpAny_bind (wpAny_pure (wpAny_pure ⟨_, rfl, wpAny_pure h⟩))) hrev)
    | exact wpAny_bind (wpAny_bind (m := Builtin.Tuple.tupleExact _) (wpAny_newObj_type (wpAny_pure (wpAny_pure ⟨_, rfl, wpAny_pure h⟩)) hrev))
    | exact wpAny_bind (wpAny_bind (m := Builtin.Tuple.tupleExact _) (wpAny_newObj_type (wpAny_pure ⟨_, rfl, wpAny_pure h⟩) hrev))
end
/-- x[::-1] of a list or a tuple -/
def tRevA (K : PySem.W.Frag) (te : TE) : TE := fun σ H Q => te σ H fun x H1 => ∃ a xs, x = .ref a ∧ ((SqL K H1 a xs ∧ ∀ p, H1 p = none → Q (.ref p) (upd H1 p (.lst xs.reverse))) ∨ (SqT K H1 a xs ∧ ∀ p, H1 p = none → Q (.ref p) (upd H1 p (.tup xs.reverse))))
theorem pe_revA {X : Cx} {e : Expr} {te : TE} {k : Nat} {p1 p2 p3 pos : Pos} (he : PE X e te) : PE X (.Subscript e (.Slice none none (some (.UnaryOp .USub (.Constant (.int 1) k p1) p2)) p3) pos) (tRevA X.K te) := by
  refine ⟨fun pins s σ H Q I h => Subscript_ (thn (he.run pins s σ H _ I h) fun v s1 ⟨x, H1, I1, r1, a, xs, ex, q1⟩ => ?_)⟩
  subst ex
  cases r1
  have hst : PO X (some (.UnaryOp .USub (.Constant (.int 1) k p1) p2)) (tPart (tUn (rU fun i => .int (-i)) (tC (.int 1)))) := po_some (pe_un un_neg pe_int)
  refine wpAny_Slice (thn (po_none.run pins s1 σ H1 (fun o H2 => o = none ∧ H2 = H1) I1 ⟨rfl, rfl⟩) fun vl s2 ⟨l, H2, I2, pl, el, e2⟩ => ?_)
  subst el e2
  refine thn (po_none.run pins s2 σ H2 (fun o H3 => o = none ∧ H3 = H2) I2 ⟨rfl, rfl⟩) fun vu s3 ⟨u, H3, I3, pu, eu, e3⟩ => ?_
  subst eu e3
  refine thn (hst.run pins s3 σ H3 (fun o H4 => o = some (-1) ∧ H4 = H3) I3 ⟨1, rfl, -1, rfl, rfl, rfl⟩) fun vs s4 ⟨o, H4, I4, ps, eo, e4⟩ => ?_
  subst eo e4
  have I5 : Inv X pins σ H4 { s4 with heap := s4.heap.push { cls := .type "slice", data := .fields #[vl, vu, vs] } } := I4.kept (t' := s4.toks) fun b ob q => Heap.get?_push_of_some _ q
  show wpAny (model X.prog X.w) X.A (subscriptTail e (.Slice none none (some (.UnaryOp .USub (.Constant (.int 1) k p1) p2)) p3) (.ref a) (.ref s4.heap.objs.size)) (EP X pins σ Q) X.xe { s4 with heap := s4.heap.push { cls := .type "slice", data := .fields #[vl, vu, vs] } }
  rcases q1 with ⟨hx, q⟩ | ⟨hx, q⟩
  · obtain ⟨its, r, ht, hz⟩ := I5.list hx
    have hlen := r.length
    refine tail_any (ops := [.ref a, .ref s4.heap.objs.size]) ht.isList.typeIs (PySem.slot_list_getitem.lookup) ?_ (by with_unfolding_all rfl)
    refine wpAny_getItem_list_slice ht.isList (Heap.IsSliceOf.new _ vl vu vs) pl pu ps (by decide) ?_ (by rw [List.size_toArray]; omega)
    rw [PySem.W.krv_pick]
    exact ⟨.ref _, _, I5.laid (t' := s4.toks) (o := .lst xs.reverse) (fun b ob q => Heap.get?_push_of_some _ q) (Nat.le_refl _) ⟨by rw [List.length_reverse]; exact hz, _, 0, r.reverse, Heap.get?_push_size _ rfl⟩, rfl, q _ (I5.hok.fresh (Nat.le_refl _))⟩
  · obtain ⟨its, r, ht, hz⟩ := I5.tuple hx
    have hlen := r.length
    cases pl
    cases pu
    cases ps
    refine tail_any (ops := [.ref a, .ref s4.heap.objs.size]) ht.typeIs PyProof.Rows.slot_tuple_getitem.lookup ?_ (by with_unfolding_all rfl)
    refine getItem_tuple_back ht (Heap.IsSliceOf.new _ _ _ _) ?_ (by rw [List.size_toArray]; omega)
    exact ⟨.ref _, _, I5.laid (t' := s4.toks) (o := .tup xs.reverse) (fun b ob q => Heap.get?_push_of_some _ q) (Nat.le_refl _) ⟨by rw [List.length_reverse]; exact hz, _, by simpa using r.reverse, IsTup.new _ _⟩, rfl, q _ (I5.hok.fresh (Nat.le_refl _))⟩
end DL


set_option Elab.async false
set_option linter.all false
set_option maxRecDepth 100000
set_option maxHeartbeats 4000000
/-! DLL: sorted(xs, key=lambda x: (x[y] == 0, abs(x[y]))), y a name of the def around. -/
namespace DL
open PySem PySem.Spec PyProof.Rows L2

/-- the lambda's text -/
def keyBody (x y : Str) (j k : Nat) (ps : List Pos) : Expr :=
  .Tuple [.Compare (.Subscript (.Name x (ps.getD 0 default)) (.Name y (ps.getD 1 default)) (ps.getD 2 default)) [.Eq] [.Constant (.int 0) j (ps.getD 3 default)] (ps.getD 4 default),
    .Call (.Name ("abs" : Str) (ps.getD 5 default)) [.Subscript (.Name x (ps.getD 6 default)) (.Name y (ps.getD 7 default)) (ps.getD 8 default)] [] (ps.getD 9 default)] k (ps.getD 10 default)
/-- what an item is sorted by -/
def keyOf (n : Int) : PyData := .tuple [.bool (n == 0), .int (if n < 0 then -n else n)]
/-- the lambda's scope: its parameter, the captured name, abs -/
structure KeyScope (sc scope : Scope) (x y : Str) : Prop where
  kind : scope.kind = .function
  co : scope.isCoroutine = false
  gen : scope.isGenerator = false
  nocell : ∀ z ∈ scope.names, z.2 ≠ .cell
  hx : scope.names.lookup x = some .local
  hy : scope.names.lookup y = some .free
  ha : scope.names.lookup ("abs" : Str) = some .globalImplicit
  free : ∀ z ∈ scope.names, z.2 = .free → sc.names.lookup z.1 = some .cell ∨ sc.names.lookup z.1 = some .free
def keyScopeB (sc scope : Scope) (x y : Str) : Bool :=
  decide (scope.kind = .function) && !scope.isCoroutine && !scope.isGenerator && (scope.names.all fun z => !decide (z.2 = .cell)) && decide (scope.names.lookup x = some .local) && decide (scope.names.lookup y = some .free) && decide (scope.names.lookup ("abs" : Str) = some .globalImplicit) &&
    scope.names.all fun z => !decide (z.2 = .free) || decide (sc.names.lookup z.1 = some .cell) || decide (sc.names.lookup z.1 = some .free)
theorem keyScope_by {sc scope : Scope} {x y : Str} (h : keyScopeB sc scope x y = true) : KeyScope sc scope x y := by
  unfold keyScopeB at h
  simp only [Bool.and_eq_true, Bool.or_eq_true, Bool.not_eq_true', decide_eq_true_eq, decide_eq_false_iff_not, List.all_eq_true] at h
  obtain ⟨⟨⟨⟨⟨⟨⟨h1, h2⟩, h3⟩, h4⟩, h5⟩, h6⟩, h7⟩, h8⟩ := h
  refine ⟨h1, h2, h3, h4, h5, h6, h7, fun z hz e => ?_⟩
  rcases h8 z hz with (q | q) | q
  · exact absurd e q
  · exact .inl q
  · exact .inr q
section
variable {X : Cx} {pins : List (Addr × Obj)} {σ : L2.St} {H : Hp} {s : Shared} {scope : Scope} {x y : Str}
theorem KeyScope.has (L : KeyScope X.env.scope scope x y) (ok : X.Ok) : ∀ z ∈ scope.names, z.2 = .free → ∃ c, X.env.cells.lookup z.1 = some c := fun z hz e => by
  rcases L.free z hz e with k | k
  · exact ok.has _ (.inl k)
  · exact ok.has _ (.inr k)
/-- one turn of the key -/
theorem key_turn {f c' t : Addr} {params : Arguments} {j k : Nat} {ps : List Pos} {pm ctv : Value} {A : Around} {xs : List V} {i : Nat} {w n : Int} {tk : Nat} {h : Heap} (I : Inv X pins σ H s) (L : KeyScope X.env.scope scope x y)
    (hf : s.heap.get? f = some (PySem.W.kla_obj "<lambda>" (X.env.qual ++ "<lambda>") params (keyBody x y j k ps) scope (cloFrom X.env.cells scope.names []) pm c' ctv)) (hco : H c' = some (LamX.CodeO c' (X.env.qual ++ "<lambda>")))
    (hbind : ∀ v, bindArgs (PySem.W.kla_fn "<lambda>" (X.env.qual ++ "<lambda>") params (keyBody x y j k ps) scope (cloFrom X.env.cells scope.names []) pm (.ref c') ctv) ⟨[v], []⟩ = pure [(x, v)])
    (hd : A.depth < recursionLimit) (hm : X.mg ("abs" : Str) = none)
    (hN : X.N[i]? = some y) (hσ : σ[i]? = some (some (.int w))) (hT : SqT X.K H t xs) (hn : atI xs w = some (.int n)) (hdx : (x == ("__debug__" : Str)) = false) (hdy : (y == ("__debug__" : Str)) = false) (hcd : (y == ("__classdict__" : Str)) = false)
    (hk : ∀ b o, s.heap.get? b = some o → h.get? b = some o) :
    wpAny (model X.prog X.w) A (call (.ref f) [.ref t]) (PySem.W.KeyPure (keyOf n) { s with heap := h, toks := tk }) (fun _ _ => False) { s with heap := h, toks := tk } := by
  have J : Inv X pins σ H { s with heap := h, toks := tk } := I.kept hk
  refine wpAny_call ?_
  have of1 : h.get? f = some (PySem.W.kla_obj "<lambda>" (X.env.qual ++ "<lambda>") params (keyBody x y j k ps) scope (cloFrom X.env.cells scope.names []) pm c' ctv) := hk _ _ hf
  obtain ⟨⟨oc, vs, t1, hoc, hdc, hvc⟩, _, _⟩ := J.hok c' _ hco
  refine PySem.W.kla_callFunE hd of1 rfl L.co L.gen rfl ⟨c', oc, vs, t1, rfl, hoc, hdc, hvc⟩ ?_
  rw [hbind]
  refine wpAny_pure (wpAny_newFunctionEnv L.nocell (fun z hz => by rw [List.mem_singleton.mp hz]; exact L.hx) (fun h₁ hns hsb => ⟨J.nolimit.fresh _ hsb, ?_⟩) L.kind)
  have kp : ∀ b o, h.get? b = some o → h₁.get? b = some o := fun b o e => hsb.extBut b o (Nat.ne_of_lt (Heap.lt_size e)) (Heap.get?_push_of_some _ e)
  refine PySem.W.kla_codeExpr ?_
  -- the captured name's cell
  obtain ⟨m, hn0, hl⟩ := J.loc
  have hvis : Vis X.env.scope y := (L.free _ (PySem.mem_of_lookup L.hy) rfl).elim (fun k => .inr (.inl k)) (fun k => .inr (.inr k))
  obtain ⟨w', rw', qw⟩ := hl i y (.int w) hN hσ hvis
  obtain ⟨tw, rfl⟩ := rw'
  have hcl : ∃ c, (cloFrom X.env.cells scope.names []).lookup y = some c ∧ X.env.cells.lookup y = some c := by
    obtain ⟨c, hc⟩ := mem_lookup (cloFrom_has (cells := X.env.cells) (acc := []) (PySem.mem_of_lookup L.hy))
    rcases cloFrom_mem (PySem.mem_of_lookup hc) with hm | ⟨h1, h2⟩
    · cases hm
    · obtain ⟨c1, hc1⟩ := L.has J.ok _ h1 rfl
      have hc1 : X.env.cells.lookup y = some c1 := hc1
      have e2 : c = c1 := by
        rw [h2, hc1] <;> rfl
      rw [e2] at hc
      exact ⟨c1, hc, hc1⟩
  obtain ⟨c, hc1, hc2⟩ := hcl
  have hcell : h₁.IsCell c (some (.int w tw)) := by
    rcases qw with ⟨k', _⟩ | ⟨_, c3, e', z⟩
    · have k' : X.env.scope.names.lookup y = some .local := k'
      rcases L.free _ (PySem.mem_of_lookup L.hy) rfl with k2 | k2 <;> rw [show X.env.scope.names.lookup y = _ from k2] at k' <;> cases k'
    · rw [hc2] at e'
      cases e'
      obtain ⟨o, ho, hd⟩ := z
      exact ⟨o, kp _ _ ho, hd⟩
  -- the item
  obtain ⟨its, rv, pl, hz⟩ := J.tuple hT
  obtain ⟨jj, h1, h2, h3, h4, h5⟩ := atI_get hn
  obtain ⟨wv, ew, rwv⟩ := rv.get h2
  obtain ⟨tn, rfl⟩ := rwv
  have hlen := rv.length
  have hn63 := line63
  have pl1 : IsTup h₁ t its.toArray := pl.keeps kp
  have ldx : ∀ {A' : Around} {Q E : Value → Shared → Prop} {p : Pos} {g : Array GenState} {d : Drawn} {tk' : Nat} {os : OsState}, Q (.ref t) ⟨h₁, g, d, tk', os⟩ → wpAny (model X.prog X.w) A' (eval (.Name x p) (LamX.lamEnv X scope h.objs.size f c')) Q E ⟨h₁, g, d, tk', os⟩ := fun q =>
    wpAny_Name (wpAny_loadName_local (m := fun z => [(x, Value.ref t)].reverse.lookup z) L.kind L.hx hns (by simp) q) hdx
  have ldy : ∀ {A' : Around} {Q E : Value → Shared → Prop} {p : Pos} {g : Array GenState} {d : Drawn} {tk' : Nat} {os : OsState}, Q (.int w tw) ⟨h₁, g, d, tk', os⟩ → wpAny (model X.prog X.w) A' (eval (.Name y p) (LamX.lamEnv X scope h.objs.size f c')) Q E ⟨h₁, g, d, tk', os⟩ := fun q =>
    wpAny_Name (wpAny_loadName_free L.kind L.hy hc1 hcell q hcd) hdy
  have sub : ∀ {A' : Around} {Q E : Value → Shared → Prop} {p p2 p3 : Pos} {g : Array GenState} {d : Drawn} {tk' : Nat} {os : OsState}, Q (.int n tn) ⟨h₁, g, d, tk', os⟩ → wpAny (model X.prog X.w) A' (eval (.Subscript (.Name x p) (.Name y p2) p3) (LamX.lamEnv X scope h.objs.size f c')) Q E ⟨h₁, g, d, tk', os⟩ := fun {A' Q E p p2 p3 g d tk' os} q =>
    PyProof.Rows.Subscript_ (ldx (ldy (PyProof.Rows.subscriptTail_builtinR (x := .int n tn) pl1.typeIs PyProof.Rows.slot_tuple_getitem.lookup
      (PyProof.Rows.getItem_tuple (j := jj) (Q := fun r s' => r = Value.int n tn ∧ Q r s') pl1 (by omega) (by omega) (by rw [List.size_toArray, ← hlen]; exact h1) (by simpa using ew) ⟨rfl, q⟩) (by rfl))))
  refine wpAny_Tuple_spliced ?_
  refine PyProof.Rows.args_cons ?_ (by rfl)
  refine wpAny_Compare1 (sub (wpAny_Constant_int (PySem.P.eq_int ?_))) (by rfl)
  refine PyProof.Rows.args_cons ?_ (by rfl)
  refine wpAny_Call_Name_kw ?_
  obtain ⟨mb, b1, b2⟩ := J.mod.blt
  refine Calls.Name_function_global L.kind L.ha (Calls.loadGlobal_builtin ((J.mod.glob.keeps J.bk).keeps kp) hm ((b1.keeps J.bk).keeps kp) ((b2 _ (by decide)).trans (by with_unfolding_all rfl)) ?_) (by decide)
  refine PyProof.Rows.callWith_builtin1 (PyProof.Rows.args_cons (sub (PyProof.Rows.args_nil ?_)) (by rfl)) (by rfl) (by rfl)
  refine call_abs_int fun u tk2 => ?_
  refine PyProof.Rows.args_nil ⟨by show 2 ≤ sizeLine; rw [sizeLine_eq]; decide, ?_⟩
  refine ⟨_, _, rfl, fun b o e => Heap.get?_push_of_some _ (kp b o e), ?_⟩
  exact .tuple (as := []) (Heap.get?_push_size _ rfl) rfl rfl (.cons (as := []) (bs := []) (.bool _) (.cons (as := []) (bs := []) (.int _ _) .nil))
end
def keyArgs (x : Str) (an : Option Expr) (p : Pos) : Arguments := { posonlyargs := [], args := [{ arg := x, annotation := an, pos := p }], vararg := none, kwonlyargs := [], kw_defaults := [], kwarg := none, defaults := [] }
theorem key_def (x : Str) (p : Pos) (env : PySem.Env) : defaultsOf (keyArgs x none p) env = ([], []) := rfl
theorem key_bind (p : Pos) (q : Str) (body : Expr) (scope : Scope) (cl : List (Str × Addr)) (pm cv ctv v : Value) : bindArgs (PySem.W.kla_fn "<lambda>" q (keyArgs ("row" : Str) none p) body scope cl pm cv ctv) ⟨[v], []⟩ = pure [(("row" : Str), v)] := rfl
def keyB : Expr → Option (Str × Str)
  | .Tuple [.Compare (.Subscript (.Name x _) (.Name y _) _) [.Eq] [.Constant (.int 0) _ _] _, .Call (.Name g _) [.Subscript (.Name x2 _) (.Name y2 _) _] [] _] _ _ => if x == x2 && y == y2 && g == ("abs" : Str) then some (x, y) else none
  | _ => none
theorem keyB_e {b : Expr} {x y : Str} (h : keyB b = some (x, y)) : ∃ j k ps, b = keyBody x y j k ps := by
  unfold keyB at h
  split at h
  · rename_i x1 p0 y1 p1 p2 j p3 p4 g p5 x2 p6 y2 p7 p8 p9 k p10
    split at h
    · rename_i q
      simp only [Bool.and_eq_true, beq_iff_eq] at q
      obtain ⟨⟨q1, q2⟩, q3⟩ := q
      have h := Option.some.inj h
      injection h with h1 h2
      subst q1 q2 q3 h1 h2
      exact ⟨j, k, [p0, p1, p2, p3, p4, p5, p6, p7, p8, p9, p10], rfl⟩
    · cases h
  · cases h
def keyArgsB : Arguments → Str → Bool
  | { posonlyargs := [], args := [{ arg := x, annotation := none, pos := _ }], vararg := none, kwonlyargs := [], kw_defaults := [], kwarg := none, defaults := [] }, y => x == y
  | _, _ => false
theorem keyArgs_e {a : Arguments} {x : Str} (h : keyArgsB a x = true) : ∃ p, a = keyArgs x none p := by
  unfold keyArgsB at h
  split at h
  · have := beq_iff_eq.mp h
    subst this
    exact ⟨_, rfl⟩
  · cases h
/-- tables stay tables -/
def TbK (H H1 : Hp) : Prop := ∀ a ps, H a = some (.tbl ps) → ∃ ps', H1 a = some (.tbl ps')
section
variable {X : Cx} {pins : List (Addr × Obj)} {σ : L2.St} {H : Hp} {s : Shared}
/-- a lambda made in a def whose table is known -/
theorem lam_mk {T : List (Addr × Str)} {cd tb : Addr} {prm : Arguments} {bdy : Expr} {sc : Scope} {at_ : Pos} {Er Q : Value → Shared → Prop} (I : Inv X pins σ H s) (B : LamX.TabB X.base X.mg cd tb) (ec : X.env.code = .ref cd)
    (inT : (tb, X.env.qual ++ "<lambda>") ∈ T) (one : ∀ p ∈ T, p.1 = tb → p.2 = X.env.qual ++ "<lambda>") (hT : LamX.Tabs T H) (nd : defaultsOf prm X.env = ([], [])) (fr : ∀ z ∈ sc.names, z.2 = .free → ∃ c, X.env.cells.lookup z.1 = some c)
    (go : ∀ (f c1 : Addr) (pm ctv : Value) (H1 : Hp) (s1 : Shared), Inv X pins σ H1 s1 → LamX.ExtN H H1 → TbK H H1 → LamX.Tabs T H1 →
      s1.heap.get? f = some (PySem.W.kla_obj "<lambda>" (X.env.qual ++ "<lambda>") prm bdy sc (cloFrom X.env.cells sc.names []) pm c1 ctv) → H1 c1 = some (LamX.CodeO c1 (X.env.qual ++ "<lambda>")) → Q (.ref f) s1) :
    wpAny (model X.prog X.w) X.A (eval (.Lambda prm bdy sc at_) X.env) Q Er s := by
  have old := hT
  obtain ⟨ps, e0, tri, amg⟩ := old _ inT
  have e1 : s.heap.get? tb = some { cls := .none, data := .fields ps } := I.hok tb _ e0
  have bt := B.bm.keeps I.bk
  refine PySem.W.kla_eval nd ?_
  cases q : codeAmong at_ ps.toList with
  | some v =>
    obtain ⟨c1, rfl, known⟩ := amg at_ v q
    refine PySem.W.kla_makeFunctionHit (mg := X.mg) (c := cd) (P := tb) (ps := ps) (closure_ok fr) I.ok.glob (I.mod.glob.keeps I.bk) ec (B.code.keeps I.bk) e1 tri q bt fun ctv g tk up sz => ?_
    exact go _ c1 _ ctv H _ (I.kept (t' := tk) fun b o e => Heap.get?_push_of_some _ (up b o e)) (LamX.ExtN.refl H) (fun a ps e => ⟨ps, e⟩) hT (Heap.get?_push_size _ rfl) known
  | none =>
    refine PySem.W.kla_makeFunction (mg := X.mg) (c := cd) (P := tb) (ps := ps) (closure_ok fr) I.ok.glob (I.mod.glob.keeps I.bk) ec (B.code.keeps I.bk) e1 tri q B.gP bt fun c1 ctv g tk up ge lt rec tab => ?_
    obtain ⟨c2, oc, vs, t, eq, oc1, oc2, oc3⟩ := rec
    injection eq with eq
    subst eq
    have free : H c1 = none := I.hok.fresh ge
    have ne : tb ≠ c1 := ne_of_none e0 free
    let H1 : Hp := upd (upd H tb (.tbl (ps ++ #[rawInt at_.line, rawInt at_.col, .ref c1]))) c1 (LamX.CodeO c1 (X.env.qual ++ "<lambda>"))
    have atT : H1 tb = some (.tbl (ps ++ #[rawInt at_.line, rawInt at_.col, .ref c1])) := by
      show upd (upd H tb _) c1 _ tb = _
      rw [upd_ne ne, upd_same]
    have atC : H1 c1 = some (LamX.CodeO c1 (X.env.qual ++ "<lambda>")) := upd_same
    have els : ∀ b o, H b = some o → b ≠ tb → H1 b = some o := fun b o e n => by
      show upd (upd H tb _) c1 _ b = _
      rw [upd_ne (ne_of_none e free), upd_ne n]; exact e
    have ext : LamX.ExtN H H1 := fun b o e n => els b o e fun z => by
      rw [z, e0] at e
      exact n ps (Option.some.inj e).symm
    have I1 : Inv X pins σ H1 { s with heap := g.push (PySem.W.kla_obj "<lambda>" (X.env.qual ++ "<lambda>") prm bdy sc (cloFrom X.env.cells sc.names []) ((X.mg "__name__").getD .none) c1 ctv), toks := tk } :=
      LamX.inv_table I e0 (fun b o n e => Heap.get?_push_of_some _ (up b o n e)) (Heap.get?_push_of_some _ tab) ge ⟨oc, vs, t, Heap.get?_push_of_some _ oc1, oc2, oc3⟩
    refine go _ c1 _ ctv H1 _ I1 ext (fun b ps' e => ?_) (fun p hp => ?_) (Heap.get?_push_size _ rfl) atC
    · by_cases z : b = tb
      · rw [z]; exact ⟨_, atT⟩
      · exact ⟨ps', els b _ e z⟩
    · by_cases z : p.1 = tb
      · rw [one p hp z, z]
        have el : (ps ++ #[rawInt at_.line, rawInt at_.col, .ref c1]).toList = ps.toList ++ [rawInt at_.line, rawInt at_.col, .ref c1] := by simp
        refine ⟨_, atT, by rw [el]; exact PySem.TriplesOk_snoc _ _ _ _ tri, fun w cv hw => ?_⟩
        rw [el] at hw
        rcases LamX.among_app _ tri hw with h | h
        · obtain ⟨c0, k1, k2⟩ := amg w cv h
          exact ⟨c0, k1, ext _ _ k2 LamX.codeO_ne⟩
        · exact ⟨c1, h, atC⟩
      · obtain ⟨qs, k1, k2, k3⟩ := hT p hp
        refine ⟨qs, els _ _ k1 z, k2, fun w cv hw => ?_⟩
        obtain ⟨c0, m1, m2⟩ := k3 w cv hw
        exact ⟨c0, m1, ext _ _ m2 LamX.codeO_ne⟩
end
/-! the whole call -/
theorem keyLe_data {β : Type} (f : β → Int) : PySem.W.dataLe false (fun b => keyOf (f b)) = fun p q => keyLe (f p) (f q) := by
  have e : PySem.W.dataLe false (fun b : β => keyOf (f b)) = PySem.W.dataLe false (fun b : β => .tuple [.int (if f b = 0 then 1 else 0), .int (if f b < 0 then -f b else f b)]) := by
    unfold PySem.W.dataLe
    congr 1
    funext b
    unfold keyOf
    simp only [PySem.W.keyToks, PySem.W.keyToksAll]
    by_cases h : f b = 0
    · simp [h]
    · simp [h]
  rw [e, PySem.W.dataLe_ii (β := β) (fun b => if f b = 0 then 1 else 0) fun b => if f b < 0 then -f b else f b]
  rfl
/-- items and their numbers at a place -/
inductive KeysAt (K : PySem.W.Frag) (H : Hp) (w : Int) : List V → List Int → Prop
  | nil : KeysAt K H w [] []
  | cons {t : Addr} {its xs : List V} {n : Int} {ns : List Int} : SqT K H t its → atI its w = some (.int n) → KeysAt K H w xs ns → KeysAt K H w (.ref t :: xs) (n :: ns)
def sortV (xs : List V) (ns : List Int) : List V := ((xs.zip ns).mergeSort fun p q => keyLe p.2 q.2).map (·.1)
theorem rd_ext {H H1 : Hp} {a : Addr} {u : HO} (e : LamX.ExtN H H1) (hu : ∀ ps, u ≠ .tbl ps) (h : Rd H a u) : Rd H1 a u := by
  rcases h with h | ⟨o, h⟩
  · exact .inl (e _ _ h hu)
  · exact .inr ⟨o, e _ _ h fun ps z => by cases z⟩
theorem sqt_ext {K : PySem.W.Frag} {H H1 : Hp} {a : Addr} {xs : List V} (e : LamX.ExtN H H1) (h : SqT K H a xs) : SqT K H1 a xs := h.imp (rd_ext e fun ps z => by cases z) id
theorem sql_ext {K : PySem.W.Frag} {H H1 : Hp} {a : Addr} {xs : List V} (e : LamX.ExtN H H1) (h : SqL K H a xs) : SqL K H1 a xs := h.imp (rd_ext e fun ps z => by cases z) id
theorem KeysAt.ext {K : PySem.W.Frag} {H H1 : Hp} {w : Int} (e : LamX.ExtN H H1) : ∀ {xs : List V} {ns : List Int}, KeysAt K H w xs ns → KeysAt K H1 w xs ns
  | _, _, .nil => .nil
  | _, _, .cons h1 h2 h3 => .cons (sqt_ext e h1) h2 (KeysAt.ext e h3)
/-- a value, and what it is sorted by -/
def KeyR (K : PySem.W.Frag) (H : Hp) (w : Int) (u : Value) (b : V × Int) : Prop := RelV b.1 u ∧ ∃ t its, b.1 = .ref t ∧ SqT K H t its ∧ atI its w = some (.int b.2)
def tKey (K : PySem.W.Frag) (T : List (Addr × Str)) (i : Nat) (te : TE) : TE := fun σ H Q => te σ H fun v H1 => ∃ (a : Addr) (xs : List V) (ns : List Int) (w : Int), v = .ref a ∧ SqL K H1 a xs ∧ σ[i]? = some (some (.int w)) ∧ LamX.Tabs T H1 ∧ KeysAt K H1 w xs ns ∧
  ∀ H2, LamX.ExtN H1 H2 → TbK H1 H2 → LamX.Tabs T H2 → ∀ p, H2 p = none → Q (.ref p) (upd H2 p (.lst (sortV xs ns)))
theorem vals_keys {K : PySem.W.Frag} {H : Hp} {w : Int} : ∀ {xs : List V} {ns : List Int} {us : List Value}, Vals xs us → KeysAt K H w xs ns → PySem.W.EachIs (KeyR K H w) us (xs.zip ns)
  | _, _, _, .nil, .nil => .nil
  | _, _, _, .cons r rs, .cons h1 h2 h3 => .cons ⟨r, _, _, rfl, h1, h2⟩ (vals_keys rs h3)
theorem each_vals {K : PySem.W.Frag} {H : Hp} {w : Int} : ∀ {us : List Value} {bs : List (V × Int)}, PySem.W.EachIs (KeyR K H w) us bs → Vals (bs.map (·.1)) us
  | _, _, .nil => .nil
  | _, _, .cons r rs => .cons r.1 (each_vals rs)
theorem alike_keys {β : Type} (f : β → Int) (bs : List β) : PySem.W.AllAlike (bs.map fun b => keyOf (f b)) := PySem.W.AllAlike.of fun _ _ => by simp [PySem.W.alike, PySem.W.alikeAll, keyOf]
section
variable {X : Cx}
theorem pe_skey {T : List (Addr × Str)} {c P : Addr} {params : Arguments} {scope : Scope} {x y : Str} {j k i : Nat} {ps : List Pos} {e : Expr} {te : TE} {p lpos kpos pos : Pos} (hg : Gl X "sorted") (hm : X.mg ("sorted" : Str) = none) (hab : X.mg ("abs" : Str) = none) (he : PE X e te)
    (hst : starEach [e] X.env = (false, eval e X.env) :: starEach [] X.env) (TB : LamX.TabB X.base X.mg c P) (hcode : X.env.code = .ref c) (hmT : (P, X.env.qual ++ "<lambda>") ∈ T) (hu : ∀ p ∈ T, p.1 = P → p.2 = X.env.qual ++ "<lambda>")
    (L : KeyScope X.env.scope scope x y) (hdef : defaultsOf params X.env = ([], [])) (hbind : ∀ (q : Str) (cl : List (Str × Addr)) (pm cv ctv v : Value), bindArgs (PySem.W.kla_fn "<lambda>" q params (keyBody x y j k ps) scope cl pm cv ctv) ⟨[v], []⟩ = pure [(x, v)])
    (hN : X.N[i]? = some y) (hdp : X.A.depth < recursionLimit) (hun : X.A.units + 65 < cLine) (hdx : (x == ("__debug__" : Str)) = false) (hdy : (y == ("__debug__" : Str)) = false) (hcd : (y == ("__classdict__" : Str)) = false) :
    PE X (.Call (.Name "sorted" p) [e] [⟨some ("key" : Str), .Lambda params (keyBody x y j k ps) scope lpos, kpos⟩] pos) (tKey X.K T i te) := by
  refine ⟨fun pins s σ H Q I h => ?_⟩
  refine wpAny_Call_Name_kw (ld_blt I hg hm (by with_unfolding_all rfl) ?_)
  refine PyProof.Rows.callWith_kw (PyProof.Rows.args_cons (thn (he.run pins s σ H _ I h) fun u s1 ⟨v, H1, I1, r1, q1⟩ => PyProof.Rows.args_nil ?_) hst) (by rw [hst]; rfl) (by rw [hst]; rfl) (by rfl) (by rfl)
  obtain ⟨a, xs, ns, w, rfl, hL, hσ, hT, hK, q⟩ := q1
  obtain rfl : u = Value.ref a := r1
  refine PyProof.Rows.kws_cons (lam_mk I1 TB hcode hmT hu hT hdef (L.has I1.ok) fun f c' pm ctv H2 s2 I2 eN tK T2 hf hco => ?_)
  refine PyProof.Rows.kws_nil ?_
  have hL2 := sql_ext eN hL
  have hK2 := hK.ext eN
  obtain ⟨its, rv, pl, hz⟩ := I2.list hL2
  have ee := vals_keys rv hK2
  refine PySem.W.sorted_key_data (b := false) (fun b : V × Int => keyOf b.2) pl.isList ee (alike_keys (fun b : V × Int => b.2) _) (PySem.W.Sortable.tuples fun _ => ⟨_, _, rfl⟩) ?_ (fun b _ => ?_) (PyProof.Rows.ksk_s1 _ _) (fun _ => PyProof.Rows.ksk_l1 _ _) (fun _ => PyProof.Rows.ksk_t1 _ _)
    (fun v b ⟨rb, t, its', e1, e2, e3⟩ _ h tk kp => ?_) fun out c2 h' tk kp _ hD hlo eo => ?_
  · have h1 := ee.length
    have h2 := rv.length
    omega
  · have hd : (keyOf b.2).depth = 1 := by simp [keyOf, PyData.depth, PyData.depthAll]
    omega
  · rw [e1] at rb
    obtain rfl : v = Value.ref t := rb
    exact key_turn I2 L hf hco (fun v => hbind _ _ _ _ _ v) (by show X.A.depth < _; exact hdp) hab hN hσ e2 e3 hdx hdy hcd kp
  · rw [keyLe_data (fun b : V × Int => b.2)] at eo
    have rv2 := each_vals eo
    have fr : H2 (s2.heap.objs.size + 1) = none := I2.hok.fresh (Nat.le_succ _)
    refine ⟨.ref (s2.heap.objs.size + 1), upd H2 (s2.heap.objs.size + 1) (.lst (sortV xs ns)), I2.laid (t' := tk) (o := .lst (sortV xs ns)) kp (Nat.le_succ _) ?_, rfl, q _ eN tK T2 _ fr⟩
    refine ⟨?_, out, c2, rv2, hD⟩
    have h1 := ee.length
    have h2 := rv.length
    unfold sortV
    rw [List.length_map, List.length_mergeSort]
    omega
end
end DL


set_option Elab.async false
set_option linter.all false
set_option maxRecDepth 100000
set_option maxHeartbeats 4000000
/-! DLS: x, *y = a list. -/
namespace DL
open PySem PySem.Spec PyProof.Rows L2 PySem.W

section
variable {prog : Program} {w : World} {A : Around} {Er : Value → Shared → Prop} {s : Shared}
/-- the first item, and a new list of the others -/
theorem unpack_head {l : Addr} {v : Value} {vs : List Value} {R : List Value → Shared → Prop} (hl : s.heap.IsList l (v :: vs).toArray) (hh : A.handled = none) (hz : vs.length < sizeLine)
    (go : ∀ (g : Heap) (tk : Nat), (∀ b o, s.heap.get? b = some o → g.get? b = some o) → R [v, .ref g.objs.size] { s with heap := g.push (seqObj "list" vs.toArray 0), toks := tk }) :
    wpAny (model prog w) A (unpackItems (.ref l) 2 (some 1)) R Er s := by
  obtain ⟨ol, el, cl⟩ := id hl
  have lt := Heap.lt_size el
  have ne : l ≠ s.heap.objs.size := Nat.ne_of_lt lt
  have sz : (v :: vs).toArray.size = vs.length + 1 := by simp
  unfold unpackItems notIterableAtAll
  refine wpAny_bind (wpAny_bind (wpAny_specialOf hl.typeIs slot_list_iter.lookup (wpAny_pure ?_)))
  rw [if_neg (by simp)]
  refine wpAny_bind (wpAny_holding (wpAny_pyIter_list hl ?_))
  refine wpAny_bind (wpAny_holding (kun_draw ne 1 0 _ _ ⟨_, Heap.get?_push_size _ rfl, rfl, rfl⟩ (hl.push _) (by omega) fun g it sb => ?_))
  have hg : g.IsList l (v :: vs).toArray := (hl.push _).extBut sb.extBut ne
  obtain ⟨oi, ei, _⟩ := id it
  obtain ⟨og, eg, _⟩ := id hg
  rw [if_neg (by simp)]
  refine wpAny_bind (wpAny_holding (kun_collect (s := { s with heap := g }) (T := "list_iterator") (.inr (.inr (.inl rfl))) (Walks.list (A := A.in1) hh s.heap.objs.size l ne (v :: vs).toArray) (fun j u st => st.1.typeIs) (k := 1) (by omega) ⟨it, hg⟩ (Heap.lt_size ei) (Heap.lt_size eg) (fun g2 tk k2 => ?_) (by omega)))
  have up : ∀ b o, s.heap.get? b = some o → g2.get? b = some o := fun b o e => k2 b o (Nat.ne_of_lt (Heap.lt_size e)) (sb.extBut b o (Nat.ne_of_lt (Heap.lt_size e)) (Heap.get?_push_of_some _ e))
  have e1 : (v :: vs).toArray.toList.drop 1 = vs := by simp
  have e2 : ((v :: vs).toArray.toList.drop 0).take 1 = [v] := by simp
  rw [e1, e2]
  dsimp only
  rw [if_neg (by omega)]
  have e3 : vs.take (vs.length - (2 - 1 - 1)) = vs := by simp
  have e4 : vs.drop (vs.length - (2 - 1 - 1)) = [] := by simp
  rw [e3, e4]
  refine wpAny_bind (wpAny_newList (wpAny_pure ?_) (by omega))
  exact go g2 tk up
end
def gStar (K : PySem.W.Frag) (i j : Nat) : TG := fun v σ H Q => ∃ a x xs, v = .ref a ∧ SqL K H a (x :: xs) ∧ ∀ p, H p = none → Q ((σ.set i (some x)).set j (some (.ref p))) (upd H p (.lst xs))
section
variable {X : Cx}
theorem pg_star {i j k : Nat} {x y : Str} {p1 p2 p3 pos : Pos} (hc : X.calm = true) (hN : X.N.Nodup) (hi : X.N[i]? = some x) (hj : X.N[j]? = some y) (hx : Loc X.env.scope x) (hy : Loc X.env.scope y) (fx : X.fn x = true ∨ X.env.scope.names.lookup x = some .local) (fy : X.fn y = true ∨ X.env.scope.names.lookup y = some .local) :
    PG X (.Tuple [.Name x p1, .Starred (.Name y p2) p3] k pos) (gStar X.K i j) := by
  refine ⟨fun pins s σ H v u Q I r h => ?_⟩
  obtain ⟨a, z, zs, rfl, hq, go⟩ := h
  obtain rfl : u = Value.ref a := r
  obtain ⟨its, rv, pl, hz⟩ := I.list hq
  cases rv with
  | cons r1 rs =>
    rename_i u1 us
    have hlen : zs.length + 1 ≤ sizeLine := hz
    have hl2 := rs.length
    rw [PyProof.Rows.assign_Tuple]
    refine wpAny_bind (wpAny_standAt ?_)
    unfold unpack
    refine wpAny_bind (wpAny_holding (unpack_head pl.isList (I.ok.hd hc) (by omega) fun g tk up => ?_))
    have I1 : Inv X pins σ H { s with heap := g, toks := tk } := I.kept up
    have fr : H g.objs.size = none := I1.hok.fresh (Nat.le_refl _)
    have I2 : Inv X pins σ (upd H g.objs.size (.lst zs)) { s with heap := g.push (seqObj "list" us.toArray 0), toks := tk } :=
      I1.laid (t' := tk) (o := .lst zs) (fun b o e => Heap.get?_push_of_some _ e) (Nat.le_refl _) ⟨by omega, us, 0, rs, Heap.get?_push_size _ rfl⟩
    show wpAny _ _ (assignInOrder [assign (.Name x p1) X.env, assign (.Name y p2) X.env] [u1, .ref g.objs.size]) _ _ _
    refine (pgs_cons (pg_name (i := i) hN hi hx fx) (pgs_cons (pg_name (i := j) hN hj hy fy) pgs_nil)).run pins _ σ _ [z, .ref g.objs.size] _ Q I2 (.cons r1 (.cons rfl .nil)) ?_
    exact ⟨_, _, rfl, _, _, rfl, rfl, go _ fr⟩
end
end DL


set_option Elab.async false
set_option linter.all false
set_option maxRecDepth 100000
set_option maxHeartbeats 4000000
/-! DLO: an exception of the house that has a making of its own and keeps one field: its class, its making, its field. -/
namespace DL
open PySem PySem.Spec PyProof.Rows L2

theorem oexB_ok {K : PySem.W.Frag} {C : Addr} (h : oexB K C = true) : ∃ nm q N bs bm sn sub ab col dd k0 k1 k2 k3 k5, K.lookup C = some (excClassObj nm q C N bs bm true sn sub ab col dd k0 k1 k2 k3 k5 "ValueError.__new__") ∧ PySem.HandSPX.refsVE bm = true := by
  unfold oexB at h
  split at h
  · rename_i t dd cd sl ho
    rw [Bool.and_eq_true] at h
    obtain ⟨ht, h⟩ := h
    have ht : t = "type" := by simpa using ht
    subst ht
    split at h
    · rename_i C' bm k0 k1 k2 k3 n k5 hm hs
      simp only [Bool.and_eq_true, beq_iff_eq, Bool.not_eq_true'] at h
      obtain ⟨⟨⟨⟨rfl, rfl⟩, hdel⟩, hdi⟩, hv⟩ := h
      obtain ⟨nm, bs, mro, ns, qn, hd, sn, sub, ab, col, del⟩ := cd
      dsimp only at hm hdel hdi
      subst hm hdel hdi
      have hsl : sl = #[k0, k1, k2, k3, some (.builtin "ValueError.__new__"), k5] := by
        obtain ⟨l⟩ := sl
        simp only at hs
        rw [hs]
      subst hsl
      exact ⟨nm, qn, ns, bs, bm, sn, sub, ab, col, dd, k0, k1, k2, k3, k5, ho, hv⟩
    · cases h
  · cases h
/-- the class x at C, its making at f; its base at D -/
structure E1C (K : PySem.W.Frag) (x : Str) (C f : Addr) : Prop where
  oex : OexC K C
  ini : PySem.W.findIn K (.ref C) "__init__" = some (some (.ref f))
  tin : PySem.W.typeIn K (.ref f) = some (.type "function")
  fld : PySem.W.findIn K (.ref C) (fieldOf x) = some none
structure E1Y (K : PySem.W.Frag) (D : Addr) : Prop where
  spc : PySem.W.specialIn K (.ref D) "__getattribute__" = some (some (.builtin "type.__getattribute__"))
  rd : PySem.W.readsIn K D (.type "type") = true
  fc : PySem.W.findCls K (.ref D) (.type "type") "__init__" = some (.val (.builtin "ValueError.__init__"))
theorem fcB_ok {o : Option PySem.W.CFound} (h : fcB o = true) : o = some (.val (.builtin "ValueError.__init__")) := by
  unfold fcB at h
  split at h
  · rw [beq_iff_eq.mp h]
  · cases h
theorem e1B_ok {K : PySem.W.Frag} {mg : Str → Option Value} {base : Heap} {x y : Str} (X : K.In base) (G : base.Ns mainGlobals mg) (h : e1B K x y = true) :
    ∃ C D, mg x = some (.ref C) ∧ mg y = some (.ref D) ∧ E1C K x C (He.fAd K (x, some "__init__")) ∧ E1Y K D := by
  unfold e1B at h
  split at h
  · rename_i C D q1 q2
    simp only [Bool.and_eq_true, decide_eq_true_eq] at h
    obtain ⟨a1, a2, a3, a4, a5, a6, a7, a8, a9, a10, a11⟩ := h
    exact ⟨C, D, PySem.W.mg_of X G q1, PySem.W.mg_of X G q2, ⟨⟨oexB_ok a1, a2, a3, a4, a5⟩, a6, a7, a8⟩, ⟨a9, a10, fcB_ok a11⟩⟩
  · cases h

section
variable {X : Cx} {e : Expr} {es : List Expr} {ta : TA} {p1 p2 pos : Pos} {D : Addr}
/-- FolkError.__init__(self, ..) -/
theorem pe_oinit (hg : Gl X "FolkError") (hm : X.mg "FolkError" = some (.ref D)) (Y : E1Y X.K D) (ha : PA X (e :: es) ta)
    (hl : (p2.endLine == pos.line) = true) (hf : methodCallForm ((e :: es).length + ([] : List Keyword).length) (backTo pos (starEach (e :: es) X.env)) (backToKw pos (keywordEach [] X.env)) = true := by rfl)
    (he : starEach (e :: es) X.env = (false, eval e X.env) :: starEach es X.env := by rfl) (hpl : (backTo pos (starEach es X.env)).any (·.1) = false := by rfl) :
    PE X (.Call (.Attribute (.Name "FolkError" p1) "__init__" p2) (e :: es) [] pos) (tVeI X.K ta) := by
  refine ⟨fun pins s σ H Q I h => ?_⟩
  have hc : eval (.Call (.Attribute (.Name "FolkError" p1) "__init__" p2) (e :: es) [] pos) X.env = (do
      let ov ← eval (.Name "FolkError" p1) X.env
      standAt p2.atName
      let (f, first) ← holding [ov] (getMethod ov "__init__" (plainOf (.Name "FolkError" p1) X.env))
      callWith pos f first (backTo pos (starEach (e :: es) X.env)) (backToKw pos (keywordEach [] X.env))) := by
    show (do
      let ov ← eval (.Name "FolkError" p1) X.env
      standAt p2.atName
      methodCall (.Name "FolkError" p1) "__init__" p2 pos X.env ov ((e :: es).length + ([] : List Keyword).length) (backTo pos (starEach (e :: es) X.env)) (backToKw pos (keywordEach [] X.env))) = _
    simp only [mcall_line hf hl]
  refine PySem.W.methodCall_KW (ld_glob I hg hm ?_ (by decide)) hc
  refine PySem.W.method_cls I.kIn Y.spc (PySem.W.cls_value I.kIn Y.rd Y.fc (by decide +kernel) ?_)
  show wpAny _ _ (callWith pos (Value.builtin "ValueError.__init__") [] (backTo pos (starEach (e :: es) X.env)) []) _ _ _
  refine PyProof.Rows.callWith_method1 (thn (ha.run pos pins _ σ H _ (I.tok _) h) fun us s1 ⟨vs, H1, I1, r1, a, C, ws, ev, hl, T, ea, q⟩ => ?_) he hpl
  subst ev
  cases r1 with
  | @cons _ u0 _ ur ra rw' =>
    obtain rfl : u0 = Value.ref a := ra
    have hlen : ur.length ≤ sizeLine := by
      rw [← Paired.length rw', sizeLine_eq]
      omega
    exact oinit_ok T I1 ea hlen fun s' J => ⟨.non, H1, J, rfl, q⟩
/-- e.f, e a tracked exception -/
def tFld (K : PySem.W.Frag) (f : Str) (te : TE) : TE := fun σ H Q => te σ H fun x H1 => ∃ (a a' C dd : Addr) (fs : List (Str × V)) (v : V), x = .ref a ∧ H1 a = some (ExD (.ref C) (some dd) a') ∧ XfC K C ∧ PySem.W.findIn K (.ref C) f = some none ∧
  H1 dd = some (.xd fs) ∧ fs.lookup f = some v ∧ Q v H1
theorem pe_fld {te : TE} {n : Str} (he : PE X e te) (hb : attributeBase e n X.env (eval e X.env) = eval e X.env := by rfl) : PE X (.Attribute e n pos) (tFld X.K n te) := by
  refine ⟨fun pins s σ H Q I h => ?_⟩
  refine attr_of hb (thn (he.run pins s σ H _ I h) fun u s1 hh => ?_)
  obtain ⟨x, H1, I1, rx, a, a', C, dd, fs, v, ex, ea, T, hno, ed, l, q⟩ := hh
  subst ex
  obtain rfl : u = Value.ref a := rx
  obtain ⟨_, ob, gs, e1, z, d⟩ := exP_at (I1.hok a _ ea)
  have hx : ObjOk X.prog X.w H1 s1.heap dd (.xd fs) := I1.hok dd _ ed
  obtain ⟨mA, hns, hr⟩ := hx
  obtain ⟨od, ho, hl⟩ := lookIn_ns hns
  obtain ⟨u, hu, ru⟩ := RelO.some_of (v := v) (o := mA n) (by rw [← l]; exact hr n)
  have J : PySem.W.InstAt s1.heap a ob C (some od) := ⟨e1, z.1, by unfold PySem.W.notCls; rw [d] <;> rfl, by rw [z.2]; exact ho⟩
  exact HandSPX.exc_get I1.kIn J T.ga T.gg T.exC (PySem.W.findObj_own T.hdC hno rfl (by rw [hl, hu])) (handed_of ru) ⟨v, H1, I1.tok _, ru, q⟩
theorem xfC_of {K : PySem.W.Frag} {C : Addr} (h : ExcC K C) : XfC K C := ⟨h.hg, h.hk, h.hs, h.hd⟩
end
/-- what a making promises: one field -/
def spInit (C : Addr) (f : Str) : Sp := fun vs H Q _ => ∃ (a : Addr) (v : V), vs = [.ref a, v] ∧ H a = some (exo a C none) ∧ ∀ d, H d = none → d ≠ a → Q .non (upd (upd H d (exd d [(f, v)])) a (exo a C (some d)))
/-- the making's text -/
def initB (f : Str) : List Stmt → Bool
  | [.Expr (.Call (.Attribute (.Name y _) m q2) [.Name s1 _, .Constant (.str _) _ _] [] q5) _, .Assign [.Attribute (.Name s2 _) g _] (.Name p _) _] => q2.endLine == q5.line && y == ("FolkError" : Str) && m == ("__init__" : Str) && s1 == ("self" : Str) && s2 == ("self" : Str) && g == f && p == f
  | _ => false
def locL (sc : Scope) (x : Str) : Bool := sc.names.lookup x == some .local
theorem locL_e {sc : Scope} {x : Str} (h : locL sc x = true) : Vis sc x := .inl (beq_iff_eq.mp h)
def initScB (f : Str) (sc : Scope) : Bool := locL sc "self" && locL sc f && sc.names.lookup ("FolkError" : Str) == some .globalImplicit && f != ("__debug__" : Str) && f != ("__classdict__" : Str)
theorem initB_e {f : Str} {b : List Stmt} (h : initB f b = true) : ∃ p1 p2 p3 x j p4 p5 p6 p7 p8 p9 p10, (p2.endLine == p5.line) = true ∧ b = [.Expr (.Call (.Attribute (.Name "FolkError" p1) "__init__" p2) [.Name "self" p3, .Constant (.str x) j p4] [] p5) p6, .Assign [.Attribute (.Name "self" p7) f p8] (.Name f p9) p10] := by
  unfold initB at h
  split at h
  · simp only [Bool.and_eq_true] at h
    obtain ⟨⟨⟨⟨⟨⟨h0, h1⟩, h2⟩, h3⟩, h4⟩, h5⟩, h6⟩ := h
    have h1 := beq_iff_eq.mp h1
    have h2 := beq_iff_eq.mp h2
    have h3 := beq_iff_eq.mp h3
    have h4 := beq_iff_eq.mp h4
    have h5 := beq_iff_eq.mp h5
    have h6 := beq_iff_eq.mp h6
    subst h1 h2 h3 h4 h5 h6
    exact ⟨_, _, _, _, _, _, _, _, _, _, _, _, h0, rfl⟩
  · cases h
section
variable {P : Program} {w : World} {K : PySem.W.Frag} {mg : Str → Option Value} {base : Heap}
theorem init_ok {x f qual : Str} {params : Arguments} {body : List Stmt} {sc : Scope} {fI : Addr} {fd : FuncData} {C D : Addr} (Y : E1Y K D) (T : E1C K x C fI) (hm : mg "FolkError" = some (.ref D)) (F : FunD K "__init__" qual params body sc [] [] fI fd) (S : FnScope ["self", f] ["self", f] sc)
    (hf : f = fieldOf x) (hb : initB f body = true) (hs : initScB f sc = true) : FnOk P w K mg base CX0 1 fI fd ["self", f] (spInit C (fieldOf x)) := by
  subst hf
  obtain ⟨oc, od, dV, kV, doc, pm, an, cdv, ct, osl, rfl, lk, hcd, _, _⟩ := F.ex
  obtain ⟨p1, p2, p3, m, j, p4, p5, p6, p7, p8, p9, p10, hl, rfl⟩ := initB_e hb
  unfold initScB at hs
  simp only [Bool.and_eq_true, bne_iff_ne, ne_eq] at hs
  obtain ⟨⟨⟨⟨v1, v2⟩, v3⟩, v4⟩, v5⟩ := hs
  have v3 : sc.names.lookup ("FolkError" : Str) = some .globalImplicit := beq_iff_eq.mp v3
  refine fn_of lk hcd S (fun vs H Q E h => ?_) fun A outer s H vs Q E hr h => ?_
  · obtain ⟨a, v, rfl, _⟩ := h
    rfl
  · obtain ⟨a, v, rfl, ha, q⟩ := h
    refine ⟨_, pss_cons (ps_expr (pe_oinit (D := D) v3 hm Y (pa_cons (pe_var (i := 0) rfl (locL_e v1)) (pa_cons pe_str pa_nil)) hl) rfl) (pss_one (ps_ost (pe_var (i := 0) rfl (locL_e v1)) (pe_var (i := 1) rfl (locL_e v2) (by simpa using v4) (by simpa using v5)))), ?_⟩
    refine ⟨.ref a, rfl, a, C, [.str m], rfl, (show 1 ≤ 1000 by decide), T.oex, ha, ?_⟩
    refine ⟨v, rfl, .ref a, rfl, a, C, rfl, T.oex, T.fld, .inl ⟨ha, fun d nd ne => q d nd ne⟩⟩
/-- the class x may be raised with one argument, within n levels -/
def E1 (P : Program) (w : World) (K : PySem.W.Frag) (mg : Str → Option Value) (base : Heap) (n : Nat) (x : Str) : Prop := ∃ (C fI : Addr) (fd : FuncData) (ps : List Str), mg x = some (.ref C) ∧ E1C K x C fI ∧ FnOk P w K mg base CX0 n fI fd ps (spInit C (fieldOf x)) ∧ Binds K fd ps [] ∧ ps.length = 2 ∧ ∀ (s : Shared) (a u : Value), BindsTo s fd ⟨[a], [(fieldOf x, u)]⟩ (ps.zip [a, u])
end
end DL


set_option Elab.async false
set_option linter.all false
set_option maxRecDepth 100000
set_option maxHeartbeats 4000000
/-! DLK1: an exception's class called by a keyword. -/
namespace PySem
namespace DLKw
open PySem.W PySem.Calls PyProof.Rows PySem.HandSPX
section
open Builtin Builtin.ObjectAttr
variable {prog : Program} {w : World} {A : Around} {E : Value → Shared → Prop} {R : Result → Shared → Prop} {h : Heap} {g : Array GenState} {d : Drawn} {t : Nat} {os : OsState} {M : Model}
variable {nm q : Str} {C N : Addr} {bs bm bmB : List Value} {hdct : Bool} {sn : List Str} {sub : List Value} {ab : Bool} {col : Option Bool} {dd : Option Addr} {k0 k1 k2 k3 k5 : Option Value} {B newId initId : String}
theorem check_new_kw (F : ExcBaseFacts B newId initId bmB) (hT : ∀ X : String, bm.contains (.type X) = bmB.contains (.type X)) {rest : List Value} {kw : List (Str × Value)} {Q : Unit → Shared → Prop}
    (hC : h.get? C = some (excClassObj nm q C N bs bm hdct sn sub ab col dd k0 k1 k2 k3 k5 newId)) (hq : Q () ⟨h, g, d, t, os⟩) : wpAny M A (checkBuiltinCall newId ⟨.ref C :: rest, kw⟩) Q E ⟨h, g, d, t, os⟩ := by
  have h1 : (Value.ref C :: bm).contains (.type B) = true := by rw [List.contains_cons, hT, F.hasB, Bool.or_true]
  have h2 := F.noStar
  simp only [checkBuiltinCall, F.newKind, F.newSplit, F.newRow]
  repeat (first | refine wpAny_loadPart_at hC ?_ | (refine wpAny_isSubtype_exc hC ?_; rw [h1]) | refine wpAny_staticBase_exc hC ?_ | refine wpAny_madeBy_exc hC ?_ | simp only [bne_self_eq_false, Bool.false_eq_true, if_false] | wp_step)
  exact hq
theorem new_kw (F : ExcBaseFacts B newId initId bmB) (hT : ∀ X : String, bm.contains (.type X) = bmB.contains (.type X)) {rest : List Value} {kw : List (Str × Value)}
    (hC : h.get? C = some (excClassObj nm q C N bs bm hdct sn sub ab col dd k0 k1 k2 k3 k5 newId))
    (hq : R (.ok (.ret (.ref (h.objs.size + 1)))) ⟨(h.push { cls := .type "tuple", data := .seq rest.toArray }).push
      { cls := .ref C, data := .fields #[.ref h.objs.size, .none, .none, .none, .bool false, .none] }, g, d, t, os⟩) (hrest : rest.length ≤ sizeLine) :
    codeAny (model prog w) A (.builtin newId ⟨.ref C :: rest, kw⟩) R ⟨h, g, d, t, os⟩ := by
  have h0 := F.ends
  have h1 : (Value.ref C :: bm).contains (.type B) = true := by rw [List.contains_cons, hT, F.hasB, Bool.or_true]
  have h2 : (Value.ref C :: bm).contains (.type "AttributeError") = false := by rw [List.contains_cons, hT, F.noAttr]; rfl
  have h3 : (Value.ref C :: bm).contains (.type "NameError") = false := by rw [List.contains_cons, hT, F.noName]; rfl
  refine codeAny_builtinAt F.entry ?_
  unfold Builtin.«BaseException.__new__»
  refine wpAt_bind ?_
  show wpAt _ _ _ (stack >>= _) _ _ _
  refine wpAt_bind (wpAt_stack fun p below => wpAt_of_wpAny ?_)
  wp_walk
  refine wpAt_of_wpAny ?_
  rw [F.owner]
  repeat (first | with_reducible refine wpAny_madeHere_exc F.canon hC ?_ | with_reducible refine wpAny_loadPart_at hC ?_ | (with_reducible refine wpAny_isSubtype_exc hC ?_; first | rw [h1] | rw [h2] | rw [h3]) | wp_step)
  show R _ _
  rw [Heap.size_push]
  exact hq
theorem check_tc_kw {rest : List Value} {kw : List (Str × Value)} {Q : Unit → Shared → Prop} (hC : h.get? C = some (excClassObj nm q C N bs bm hdct sn sub ab col dd k0 k1 k2 k3 k5 newId))
    (hq : Q () ⟨h, g, d, t, os⟩) : wpAny M A (checkBuiltinCall "type.__call__" ⟨.ref C :: rest, kw⟩) Q E ⟨h, g, d, t, os⟩ := by
  have f3 := tc_sub
  have hT : (⟨h, g, d, t, os⟩ : Shared).TypeIs (.ref C) "type" := ⟨_, hC, rfl⟩
  simp only [checkBuiltinCall, tc_kind, tc_split]
  repeat (any_goals (first | assumption | with_reducible refine wpAny_loadPart_at hC ?_ | with_reducible refine wpAny_onRaise ?_ | with_reducible refine wpAny_map ?_ | wp_step))
theorem type_call_kw (F : ExcBaseFacts B newId initId bmB) (hT : ∀ X : String, bm.contains (.type X) = bmB.contains (.type X)) {rest : List Value} {kw : List (Str × Value)} {fI : Addr} {Q : Fin → Shared → Prop}
    (hC : h.get? C = some (excClassObj nm q C N bs bm hdct sn sub ab col dd k0 k1 k2 k3 k5 newId))
    (hi : W.Looks (model prog w) h (typeLookup (.ref C) "__init__") (some (.ref fI))) (hb : ∀ self, W.Looks (model prog w) h (bindSpecial (.ref fI) self) (.ref fI, [self])) (hrest : rest.length ≤ sizeLine)
    (hq : codeAny (model prog w) A (.call (.ref fI) ⟨.ref (h.objs.size + 1) :: rest, kw⟩)
      (fun r s' => match r with | .ok (.ret v) => v = .none ∧ Q (.done (.ret (.ref (h.objs.size + 1)))) s' | .ok _ => False | .error e => E e s')
      ⟨(h.push (W.kdv_tup rest)).push (excO C h.objs.size), g, d, t, os⟩) :
    wpAny (model prog w) A (Builtin.«type.__call__» ⟨.ref C :: rest, kw⟩) Q E ⟨h, g, d, t, os⟩ := by
  repeat (first | with_reducible refine wpAny_loadPart_at hC ?_ | with_reducible refine wpAny_madeBy_exc hC ?_ | wp_step)
  refine codeAny_call_builtin_code (Code.quiet_builtin _ F.quiet) (check_new_kw F hT hC ?_)
  refine new_kw F hT hC ?_ hrest
  show wpAny _ _ _ _ _ _
  have k : ∀ b o, h.get? b = some o → ((h.push (W.kdv_tup rest)).push (excO C h.objs.size)).get? b = some o := fun b o e => Heap.get?_push_of_some _ (Heap.get?_push_of_some _ e)
  have e1 := k _ _ hC
  have e2 : ((h.push (W.kdv_tup rest)).push (excO C h.objs.size)).get? (h.objs.size + 1) = some (excO C h.objs.size) := by heap_get
  have e3 : (Value.ref C :: bm).contains (.ref C) = true := by simp
  have i1 := hi.keeps k
  have b1 := (hb (.ref (h.objs.size + 1))).keeps k
  unfold isInstance
  repeat (first | with_reducible refine wpAny_loadPart_at e2 ?_ | (with_reducible refine wpAny_isSubtype_exc e1 ?_; rw [e3]) | wp_step)
  show wpAny _ _ (typeLookup (.ref C) _) _ _ _
  refine i1.at ?_
  refine wpAny_holding (wpAny_bind (b1.at ?_))
  refine wpAny_bind (wpAny_call (codeAny_mono hq fun r s' z => ?_))
  rcases r with e | (v | _ | _ | _) <;> first | exact z | exact z.elim | skip
  obtain ⟨rfl, z⟩ := z
  first
    | exact wpAny_pure (wpAny_pure z)
    | (wp_walk; exact z)
theorem call_kw (F : ExcBaseFacts B newId initId bmB) (hT : ∀ X : String, bm.contains (.type X) = bmB.contains (.type X)) {rest : List Value} {kw : List (Str × Value)} {fI : Addr}
    (hC : h.get? C = some (excClassObj nm q C N bs bm hdct sn sub ab col dd k0 k1 k2 k3 k5 newId))
    (hi : W.Looks (model prog w) h (typeLookup (.ref C) "__init__") (some (.ref fI))) (hb : ∀ self, W.Looks (model prog w) h (bindSpecial (.ref fI) self) (.ref fI, [self])) (hrest : rest.length ≤ sizeLine)
    (hq : codeAny (model prog w) (A.under (.builtin "type.__call__" ⟨.ref C :: rest, kw⟩)) (.call (.ref fI) ⟨.ref (h.objs.size + 1) :: rest, kw⟩) (W.InitBack (h.objs.size + 1) R)
      ⟨(h.push (W.kdv_tup rest)).push (excO C h.objs.size), g, d, t, os⟩) :
    codeAny (model prog w) A (.call (.ref C) ⟨rest, kw⟩) R ⟨h, g, d, t, os⟩ := by
  have f1 := tc_lookup
  have f2 := tc_bind (.ref C)
  have hTy : (⟨h, g, d, t, os⟩ : Shared).TypeIs (.ref C) "type" := ⟨_, hC, rfl⟩
  refine codeAny_of_tree ?_
  show wpAny _ _ (callAny (.ref C) _) _ _ _
  repeat (any_goals (first | assumption | with_reducible refine wpAny_loadPart_at hC ?_ | wp_step))
  refine ⟨rfl, ?_⟩
  refine codeAny_call_builtin_at (Code.quiet_builtin _ (by decide +kernel)) entry_typeCall (check_tc_kw hC (type_call_kw F hT hC hi hb hrest ?_))
  refine codeAny_mono hq fun r s' z => ?_
  rcases r with e | (v | _ | _ | _) <;> exact z
end
end DLKw
end PySem


set_option Elab.async false
set_option linter.all false
set_option maxRecDepth 100000
set_option maxHeartbeats 4000000
/-! DLK: exceptions made and kept as values; made by a keyword. -/
namespace DL
open PySem PySem.Spec PyProof.Rows L2
section
variable {X : Cx} {x f : Str} {e : Expr} {te : TE} {p pos kp : Pos} {C fI : Addr} {k : Nat} {fd : FuncData} {ps : List Str} {sp : Sp}
/-- C(f=e), C's making keeping sp -/
theorem pmk_oexK {CX : CXT} (T : OexC X.K C) (iC : PySem.W.findIn X.K (.ref C) "__init__" = some (some (.ref fI))) (tI : PySem.W.typeIn X.K (.ref fI) = some (.type "function"))
    (F1 : FnOk X.prog X.w X.K X.mg X.base CX k fI fd ps sp) (hp : ps.length = 2) (hr : Room (k + 1) X.A) (hb : ∀ (s : Shared) (a u : Value), BindsTo s fd ⟨[a], [(f, u)]⟩ (ps.zip [a, u])) (hx : Passes CX X (fun _ _ _ => False)) (hg : Gl X x) (hm : X.mg x = some (.ref C)) (he : PE X e te)
    (hdb : (x == ("__debug__" : Str)) = false := by decide) :
    PMk X (.Call (.Name x p) [] [⟨some f, e, kp⟩] pos) (tMkO C sp [] (tCons te tNil)) := by
  intro pins s σ H Q I h
  obtain ⟨nm, q, N, bs, bm, sn, sub, ab, col, dd, k0, k1, k2, k3, k5, hC, hbm⟩ := T.cls
  refine wpAny_Call_Name_kw (ld_glob I hg hm ?_ hdb)
  refine PySem.W.callWith_KW0 (h₀ := X.base) I.ok.mod.kin T.kC rfl (thn ((pk_cons he pk_nil).run pos pins s σ H _ I h) fun ws s1 ⟨vs, H1, I1, r1, hz, q1⟩ => ⟨I1.kIn, ?_⟩) rfl
  obtain ⟨hp1, g, dr, tk, os⟩ := s1
  have hsz : hp1.objs.size ≤ hp1.objs.size + 1 := Nat.le_succ _
  have hn : H1 (hp1.objs.size + 1) = none := I1.hok.fresh hsz
  have hq := q1 (hp1.objs.size + 1) hn
  rw [List.append_nil] at hq
  have hl := F1.len _ _ _ _ hq
  rw [hp, List.length_cons] at hl
  cases r1 with
  | nil => cases hl
  | @cons v u vs' us' ru rn =>
  cases rn with
  | cons _ _ => simp at hl
  | nil =>
    show wpAny _ _ (call (.ref C) [] [(f, u)]) _ _ _
    have kk : ∀ b o, hp1.get? b = some o → ((hp1.push (PySem.W.kdv_tup [])).push (PySem.HandSPX.excO C hp1.objs.size)).get? b = some o := fun b o e => Heap.get?_push_of_some _ (Heap.get?_push_of_some _ e)
    have e1 : ((hp1.push (PySem.W.kdv_tup [])).push (PySem.HandSPX.excO C hp1.objs.size)).get? (hp1.objs.size + 1) = some (PySem.HandSPX.excO C hp1.objs.size) := by heap_get
    have I2 : Inv X pins σ (upd H1 (hp1.objs.size + 1) (exo (hp1.objs.size + 1) C none)) ⟨(hp1.push (PySem.W.kdv_tup [])).push (PySem.HandSPX.excO C hp1.objs.size), g, dr, tk, os⟩ :=
      I1.laid (t' := tk) (a := hp1.objs.size + 1) (o := exo (hp1.objs.size + 1) C none) (h' := (hp1.push (PySem.W.kdv_tup [])).push (PySem.HandSPX.excO C hp1.objs.size)) kk hsz (exo_ok e1)
    have r2 : Vals [V.ref (hp1.objs.size + 1), v] [Value.ref (hp1.objs.size + 1), u] := .cons rfl (.cons ru .nil)
    refine wpAny_call (PySem.DLKw.call_kw F.excBase_ValueError (fun Y => PySem.HandSPX.refsVE_contains Y bm hbm) (I1.kIn _ _ hC) (PySem.W.looks_findIn I1.kIn iC) (fun self => PySem.W.bind_fn I1.kIn self tI) (Nat.zero_le _)
      (codeAny_mono (F1.run _ X.stack _ _ ⟨[Value.ref (hp1.objs.size + 1)], [(f, u)]⟩ [Value.ref (hp1.objs.size + 1), u] _ _ (fun _ _ _ => False) (hr.make C [] [(f, u)]) (I2.env0.make C [] [(f, u)]) (hb _ _ _) r2 hq) fun r s' hq' => ?_))
    cases r with
    | error er => exact hx pins σ _ _ er s' I2 hq'
    | ok fl =>
      cases fl with
      | ret u =>
        obtain ⟨v, H2, os2, bare2, un2, hok2, rv, ev, d, fs, ea, ed, hd1, q2⟩ := hq'
        subst ev
        obtain ⟨h2, g2, d2, t2, os'⟩ := s'
        exact ⟨rv, mk_end (raises_own T.exC T.tyC) I1 hsz kk un2 hok2 os2 bare2 ea ed hd1 q2⟩
      | next => exact False.elim hq'
      | brk => exact False.elim hq'
      | cont => exact False.elim hq'
/-- an exception that is made is a value -/
theorem pe_mk {t : L2.St → Hp → XK → Prop} (h : PMk X e t) : PE X e (fun σ H Q => t σ H fun cls d H' => ∀ a, H' a = none → Q (.ref a) (upd H' a (ExD cls d a))) := by
  refine ⟨fun pins s σ H Q I q => wpAny_mono (h pins s σ H _ I q) (fun u s' hu => ?_) fun _ _ z => z⟩
  obtain ⟨a, oe, vs, sI, H', cls, d, rfl, J, k, na, ha, z, hd, h1, hn, ho, hb, r, q⟩ := hu
  refine ⟨.ref a, _, J.call' (ch := []) ho (Un.laidN k na hn) (J.hok.laidN k hn (exP_there ha z hd)) hb (fun b z => absurd z (by simp)), rfl, q a hn⟩
/-- X(), X a class without a making of its own -/
theorem pmk_own0 {bmB : List Value} {B newId initId : String} (F : ExcBaseFacts B newId initId bmB) (q : PySem.W.excIn X.K C bmB newId = true) (gC : X.mg x = some (.ref C)) (kC : PySem.W.keepIn X.K (.ref C) = true) (r : Raises X (.ref C)) (hg : Gl X x)
    (hdb : (x == ("__debug__" : Str)) = false := by decide) : PMk X (.Call (.Name x p) [] [] pos) (fun _ H Q => Q (.ref C) none H) := by
  intro pins s σ H Q I h
  refine wpAny_Call_Name_kw (ld_glob I hg gC ?_ hdb)
  refine PySem.W.callWith_KW0 (h₀ := X.base) I.ok.mod.kin kC rfl (thn (pk_nil.run pos pins s σ H (fun vs H1 => vs = [] ∧ H = H1) I ⟨rfl, rfl⟩) fun us s1 hh => ?_) rfl
  obtain ⟨vs, H1, I1, r1, ev, eH⟩ := hh
  subst ev
  rw [← eH] at I1
  refine ⟨I1.kIn, ?_⟩
  cases r1
  show wpAny _ _ (call (.ref C) []) _ _ _
  obtain ⟨bm, N, nm, qn, bs, hdct, sn, sub, ab, col, dd, k0, k1, k2, k3, k5, mN, hC, hN, hni, T⟩ := exc_obj I1.kIn q
  exact wpAny_call_exc_subT F T hC hN hni (fun h' e hm => mk_of I1 hm r h (I1.hok.gone hm.new)) (Nat.zero_le _)
end
/-- isinstance(x, c), x None or a held exception, with or without a dict -/
def rIsY (K : PySem.W.Frag) : List V → Hp → VK → Prop := fun xs H Q => ∃ (x c : V) (u : Value) (b : Bool), xs = [x, c] ∧ ClsV c u ∧
  ((x = .non ∧ PySem.W.kitOne K (.type "NoneType") u = some b) ∨ ∃ (a D a' : Addr) (d0 : Option Addr), x = .ref a ∧ H a = some (ExD (.ref D) d0 a') ∧ (∀ dx, d0 = some dx → ∃ fs, H dx = some (.xd fs)) ∧ ExcC K D ∧ PySem.W.kitOne K (.ref D) u = some b) ∧ Q (.bl b) H
theorem call_isY {X : Cx} : CallR X (.builtin "isinstance") (rIsY X.K) := by
  intro pins s σ H xs us Q I r h
  obtain ⟨x, c, u, b, rfl, k, hx, q⟩ := h
  obtain ⟨u1, u2, rfl, r1, r2⟩ := vals2 r
  have e2 := k.eq r2
  subst e2
  rcases hx with ⟨rfl, e⟩ | ⟨a, D, a', d0, rfl, ha, hd0, C, e⟩
  · cases (show u1 = Value.none from r1)
    exact PySem.W.kia_one PySem.W.kitx_none I.kIn True.intro e (fun z => nomatch z) fun tk => ⟨.bl b, H, I.tok tk, rfl, q⟩
  · cases (show u1 = Value.ref a from r1)
    obtain ⟨_, ob, fs, e1, z, d⟩ := exP_at (I.hok a _ ha)
    have hcl : (PySem.W.clsIn X.K D).isSome = true := by
      obtain ⟨cd, hc, _⟩ := PySem.W.any_some C.hd
      rw [hc]; rfl
    have J : ∃ od : Option Obj, PySem.W.InstAt s.heap a ob D od := by
      cases d0 with
      | none => exact ⟨none, e1, z.1, by unfold PySem.W.notCls; rw [d] <;> rfl, by rw [z.2]; trivial⟩
      | some dx =>
        obtain ⟨gs, hg⟩ := hd0 dx rfl
        have hx : ObjOk X.prog X.w H s.heap dx (.xd gs) := I.hok dx _ hg
        obtain ⟨mA, hns, _⟩ := hx
        obtain ⟨o, ho, _⟩ := lookIn_ns hns
        exact ⟨some o, e1, z.1, by unfold PySem.W.notCls; rw [d] <;> rfl, by rw [z.2]; exact ho⟩
    obtain ⟨od, J⟩ := J
    exact PySem.W.kia_one (PySem.W.kitx_exc (od := od) hcl C.hg C.hk C.hs C.ha C.hn C.ht C.hm) I.kIn J e (fun z => nomatch z) fun tk => ⟨.bl b, H, I.tok tk, rfl, q⟩
end DL


set_option Elab.async false
set_option linter.all false
set_option maxRecDepth 100000
set_option maxHeartbeats 2000000
/-! DL13: what is checked of a text against its term (ck..), the context's facts (XOk), posts one after another, targets. -/
namespace DL
open PySem PySem.Spec PyProof.Rows L2

/-- a def's names: its slots, the module's data, the module's defs, its exceptions' classes without a making of their own -/
structure Cf where
  N : List Str
  gx : List Str
  fx : List Str
  ex : List Str
  /-- the classes of exceptions that are asked for -/
  cx : List Str
  /-- the keyword by which the last argument of a callee is handed in -/
  kx : List (Option Str)
  /-- it makes lambdas -/
  lm : Bool := false
  /-- the classes of exceptions with a field that are raised or caught -/
  e1 : List Str := []
def kwOf (cf : Cf) (k : Nat) : Option Str := (cf.kx[k]?).join

def okN (x : Str) : Bool := !(x == ("__debug__" : Str)) && !(x == ("__classdict__" : Str)) && !(x == ("__name__" : Str))
def visB (sc : Scope) (x : Str) : Bool := match sc.names.lookup x with
  | some .local => true
  | some .cell => true
  | some .free => true
  | _ => false
def locB (sc : Scope) (x : Str) : Bool := match sc.names.lookup x with
  | some .local => true
  | some .cell => true
  | _ => false
def stB (sc : Scope) (fc : Option Scope) (x : Str) : Bool := match sc.names.lookup x with
  | some .local => true
  | some .cell => (match fc with
    | none => true
    | some s => s.names.lookup x == some .cell)
  | _ => false
def glB (sc : Scope) (x : Str) : Bool := sc.names.lookup x == some .globalImplicit
def atB (l : List Str) (i : Nat) (x : Str) : Bool := l[i]? == some x
def nmB (cf : Cf) (sc : Scope) (i : Nat) (x : Str) : Bool := atB cf.N i x && visB sc x && okN x
def gnB (sc : Scope) (x : Str) : Bool := glB sc x && okN x

def ckLit : D → Expr → Bool
  | .none, .Constant .none _ _ => true
  | .bool b, .Constant (.bool c) _ _ => b == c
  | .int i, .Constant (.int j) _ _ => i == j
  | .str x, .Constant (.str y) _ _ => x == y
  | _, _ => false
def plainB : Expr → Bool
  | .Slice _ _ _ _ => false
  | _ => true
/-- no star, no set display: what stands as an argument or behind in -/
def argB : Expr → Bool
  | .Starred _ _ => false
  | .Set _ _ _ => false
  | _ => true
def ownOf (N : List Str) (vs : List Nat) : List (Str × Nat) := vs.filterMap fun i => (N[i]?).map fun x => (x, i)
mutual
def tgS : Tg → List Nat
  | .nm i => [i]
  | .tp ts => tgSs ts
def tgSs : List Tg → List Nat
  | [] => []
  | t :: ts => tgS t ++ tgSs ts
end
mutual
def ckTg (cf : Cf) (sc : Scope) (fc : Option Scope) : Tg → Expr → Bool
  | .nm i, .Name x _ => atB cf.N i x && stB sc fc x
  | .tp ts, .Tuple es _ _ => ckTgs cf sc fc ts es
  | _, _ => false
def ckTgs (cf : Cf) (sc : Scope) (fc : Option Scope) : List Tg → List Expr → Bool
  | [], [] => true
  | t :: ts, e :: es => ckTg cf sc fc t e && ckTgs cf sc fc ts es
  | _, _ => false
end
def kwB (st : Bool) : List Keyword → Bool
  | [] => !st
  | [⟨some x, .Constant (.bool true) _ _, _⟩] => st && x == ("strict" : Str)
  | _ => false
/-- what may be looked at -/
def pkB : Expr → Bool
  | .Compare _ _ _ _ => true
  | .BoolOp _ _ _ => true
  | .UnaryOp _ _ _ => true
  | .Call _ _ _ _ => true
  | .Subscript _ _ _ => true
  | _ => false
def subB : Expr → Bool
  | .Subscript _ _ _ => true
  | .Name _ _ => true
  | _ => false
/-- the one argument, by place or by the name f -/
def mkArg : Bool → List Expr → List Keyword → Str → Option Expr
  | false, [e], [], _ => if argB e then some e else none
  | true, [], [⟨some n, e, _⟩], f => if n == f then some e else none
  | _, _, _, _ => none
theorem mkArg_e {kw : Bool} {args : List Expr} {kws : List Keyword} {f : Str} {e : Expr} (h : mkArg kw args kws f = some e) : (kw = false ∧ args = [e] ∧ kws = [] ∧ argB e = true) ∨ (kw = true ∧ args = [] ∧ ∃ kp, kws = [⟨some f, e, kp⟩]) := by
  unfold mkArg at h
  split at h
  · split at h
    · rename_i ha
      have h := Option.some.inj h
      subst h
      exact .inl ⟨rfl, rfl, rfl, ha⟩
    · cases h
  · split at h
    · rename_i hn
      have h := Option.some.inj h
      subst h
      have hn := beq_iff_eq.mp hn
      subst hn
      exact .inr ⟨rfl, rfl, _, rfl⟩
    · cases h
  · cases h
def isTup : Expr → Bool
  | .Tuple _ _ _ => true
  | _ => false
def isIsi : Bi → Bool
  | .isi _ => true
  | _ => false
def ckIsi (sc : Scope) : Bi → List Expr → Bool
  | .isi t, [.Name y _] => y == Str.ofString (tyStr t) && glB sc y
  | .isi _, _ => false
  | _, _ => true
def len01 : List Expr → Bool
  | [] => true
  | [_] => true
  | _ => false
def len12 : List Expr → Bool
  | [_] => true
  | [_, _] => true
  | _ => false
/-- what list(..) is asked of -/
def litB : It → Bool
  | .zip true (.cons _ (.cons _ .nil)) => true
  | .rng (.cons _ .nil) => true
  | _ => false
/-- the lambda that is sorted by -/
def lamB (cf : Cf) (sc : Scope) (i : Nat) (prm : Arguments) (b : Expr) (scope : Scope) : Bool := match keyB b with
  | some (x, y) => x == ("row" : Str) && keyArgsB prm x && atB cf.N i y && okN y && keyScopeB sc scope x y
  | none => false
mutual
def ckE (cf : Cf) : Scope → Option Scope → Ex → Expr → Bool
  | _, _, .lit c, e => ckLit c e
  | sc, _, .v i, .Name x _ => nmB cf sc i x
  | sc, _, .frz i, .Name x _ => nmB cf sc i x
  | sc, _, .tk i, .Name x _ => nmB cf sc i x
  | sc, fc, .oix i b, .Subscript (.Name x _) sl _ => nmB cf sc i x && plainB sl && ckE cf sc fc b sl
  | sc, fc, .popi i b, .Call (.Attribute (.Name x _) m ap) [e] [] cp => nmB cf sc i x && m == ("pop" : Str) && ap.endLine == cp.line && argB e && ckE cf sc fc b e
  | _, _, .dic0, .Dict [] [] _ => true
  | sc, fc, .oadd a i, .BinOp l .Add (.Name x _) _ => nmB cf sc i x && ckE cf sc fc a l
  | sc, _, .olen i, .Call (.Name f _) [.Name x _] [] _ => f == ("len" : Str) && glB sc f && nmB cf sc i x
  | sc, fc, .peek a, e => pkB e && ckE cf sc fc a e
  | sc, _, .olst i, .Call (.Name f _) [.Name x _] [] _ => f == ("list" : Str) && glB sc f && nmB cf sc i x
  | sc, fc, .skey a i, .Call (.Name f _) [e] [⟨some n, .Lambda prm b scope _, _⟩] _ => f == ("sorted" : Str) && glB sc f && n == ("key" : Str) && cf.lm && fc.isNone && lamB cf sc i prm b scope && argB e && ckE cf sc fc a e
  | sc, _, .gl k, .Name x _ => atB cf.gx k x && gnB sc x
  | sc, fc, .bin o a b, .BinOp l p r _ => opB o == p && ckE cf sc fc a l && ckE cf sc fc b r
  | sc, fc, .neg a, .UnaryOp .USub l _ => ckE cf sc fc a l
  | sc, fc, .no a, .UnaryOp .Not l _ => ckE cf sc fc a l
  | sc, fc, .cmp o a b, .Compare l [p] [r] _ => opC o == p && !behindInMarks p r && ckE cf sc fc a l && ckE cf sc fc b r
  | sc, fc, .chn o o2 a b c, .Compare l [p, q] [r, t] _ => opC o == p && opC o2 == q && !lastMarks [p, q] [r, t] && ckE cf sc fc a l && ckE cf sc fc b r && ckE cf sc fc c t
  | sc, fc, .and a b, .BoolOp .And (l :: rest) pos => ckE cf sc fc a l && (match rest with
    | [] => false
    | [r] => ckE cf sc fc b r
    | r :: s :: u => ckE cf sc fc b (.BoolOp .And (r :: s :: u) pos))
  | sc, fc, .or a b, .BoolOp .Or (l :: rest) pos => ckE cf sc fc a l && (match rest with
    | [] => false
    | [r] => ckE cf sc fc b r
    | r :: s :: u => ckE cf sc fc b (.BoolOp .Or (r :: s :: u) pos))
  | sc, fc, .ife c a b, .IfExp t x y _ => ckE cf sc fc c t && ckE cf sc fc a x && ckE cf sc fc b y
  | sc, fc, .tup es, .Tuple ls _ _ => ckEs cf sc fc es ls
  | sc, fc, .lst es, .List ls _ => ckEs cf sc fc es ls
  | sc, fc, .ix a b, .Subscript l r _ => plainB r && ckE cf sc fc a l && ckE cf sc fc b r
  | sc, fc, .sl a lo hi, .Subscript l (.Slice x y none _) _ => ckE cf sc fc a l && ckOp cf sc fc lo x && ckOp cf sc fc hi y
  | sc, fc, .rsl a, .Subscript l (.Slice none none (some (.UnaryOp .USub (.Constant (.int 1) _ _) _)) _) _ => ckE cf sc fc a l
  | sc, fc, .isx a c, .Call (.Name x _) [e, .Name y _] [] _ => x == ("isinstance" : Str) && glB sc x && y == c && gnB sc y && cf.cx.contains c && argB e && ckE cf sc fc a e
  | sc, fc, .mkx c es, .Call (.Name x _) args [] _ => x == c && cf.ex.contains x && exNames.contains x && gnB sc x && len01 args && ckEs cf sc fc es args
  | sc, fc, .mk1 c kw a, .Call (.Name x _) args kws _ => x == c && cf.e1.contains x && exNames.contains x && gnB sc x && (match mkArg kw args kws (fieldOf c) with
    | some e => ckE cf sc fc a e
    | none => false)
  | sc, fc, .fld a f, .Attribute e n _ => n == f && subB e && ckE cf sc fc a e
  | sc, fc, .bi f es, .Call (.Name x _) (e :: ls) [] _ => x == biName f && glB sc x && ckIsi sc f ls && ckEs cf sc fc es (if isIsi f = true then [e] else e :: ls)
  | sc, fc, .lit_ it, .Call (.Name f _) [g] [] _ => f == ("list" : Str) && glB sc f && litB it && ckIt cf sc fc it true g
  | sc, fc, .call k es, .Call (.Name x _) (e :: ls) [] _ => atB cf.fx k x && gnB sc x && ckEs cf sc fc es (e :: ls) && (kwOf cf k).isNone
  | sc, fc, .call2 i k1 k2 es, .Call (.Subscript (.List [.Name x1 _, .Name x2 _] _) (.Name y _) _) (e :: ls) [] _ => atB cf.fx k1 x1 && gnB sc x1 && (atB cf.fx k2 x2 && gnB sc x2) && nmB cf sc i y && ckEs cf sc fc es (e :: ls) && (kwOf cf k1).isNone && (kwOf cf k2).isNone
  | sc, fc, .callk k es a, .Call (.Name x _) (e :: ls) [⟨some n, ea, _⟩] _ => atB cf.fx k x && gnB sc x && kwOf cf k == some n && ckEs cf sc fc es (e :: ls) && ckE cf sc fc a ea
  | sc, fc, .callo k i es, .Call (.Name x _) (.Name y _ :: ls) [] _ => atB cf.fx k x && gnB sc x && nmB cf sc i y && ckEs cf sc fc es ls && (kwOf cf k).isNone
  | sc, fc, .comp x vs g it c, .ListComp elt [⟨tg, iter, ifs, 0⟩] scope _ =>
      blkC cf.N sc scope (ownOf cf.N vs) && (ownOf cf.N vs).map (·.2) == vs && (tgS g).all (fun i => vs.contains i) && ckTg cf (relS scope sc) (some scope) g tg && ckIt cf sc fc it (isTup tg) iter &&
        ckE cf (relS scope sc) (some scope) x elt && ckOp cf (relS scope sc) (some scope) c ifs.head? && len01 ifs
  | _, _, _, _ => false
def ckEs (cf : Cf) : Scope → Option Scope → Exs → List Expr → Bool
  | _, _, .nil, [] => true
  | sc, fc, .cons a as, e :: es => argB e && ckE cf sc fc a e && ckEs cf sc fc as es
  | _, _, _, _ => false
def ckOp (cf : Cf) : Scope → Option Scope → Op → Option Expr → Bool
  | _, _, .non, none => true
  | sc, fc, .som a, some e => ckE cf sc fc a e
  | _, _, _, _ => false
def ckIt (cf : Cf) : Scope → Option Scope → It → Bool → Expr → Bool
  | sc, fc, .seq a, _, e => argB e && ckE cf sc fc a e
  | sc, fc, .zip st es, tp, .Call (.Name x _) (e :: ls) kws _ => tp && x == ("zip" : Str) && glB sc x && kwB st kws && len12 ls && ckEs cf sc fc es (e :: ls)
  | sc, fc, .enum (.seq a), tp, .Call (.Name x _) [e] [] _ => tp && x == ("enumerate" : Str) && glB sc x && argB e && ckE cf sc fc a e
  | sc, fc, .rng es, _, .Call (.Name x _) (e :: ls) [] _ => x == ("range" : Str) && glB sc x && len01 ls && ckEs cf sc fc es (e :: ls)
  | sc, fc, .rev a, _, .Call (.Name x _) [e] [] _ => x == ("reversed" : Str) && glB sc x && argB e && ckE cf sc fc a e
  | _, _, _, _, _ => false
end

/-- the house's classes of exceptions, those that stand in the module -/
structure ExF (K : PySem.W.Frag) (mg : Str → Option Value) : Prop where
  cls : ∀ k C, exNames.contains k = true → mg k = some (.ref C) → ExcC K C ∧ PySem.W.kitOne K (.ref C) (.type "ValueError") = some true ∧ PySem.W.kitOne K (.type "NoneType") (.ref C) = some false
  fld : ∀ k C, exNames.contains k = true → mg k = some (.ref C) → PySem.W.findIn K (.ref C) (fieldOf k) = some none
  sub : ∀ k c C D, exNames.contains k = true → exNames.contains c = true → mg k = some (.ref C) → mg c = some (.ref D) → PySem.W.kitOne K (.ref C) (.ref D) = some (exSub k c) ∧ PySem.W.exmOne K (.ref C) (.ref D) = some (exSub k c)
/-- what a name that is called stands for: a def, perhaps with defaults -/
def Callee (P : Program) (w : World) (K : PySem.W.Frag) (mg : Str → Option Value) (base : Heap) (xo : XO) (n : Nat) (x : Str) (f : Fn) : Prop := ∃ (a : Addr) (fd : FuncData) (ps : List Str) (dvs : List V) (ds : List Value) (sp0 : Sp),
  FnOk P w K mg base (L2.CX P w) n a fd ps sp0 ∧ mg x = some (.ref a) ∧ PySem.W.keepIn K (.ref a) = true ∧ Binds K fd ps ds ∧ Vals dvs ds ∧ ∀ vs H Q E, spFn K xo mg f vs H Q E → sp0 (vs ++ dvs) H Q E
/-- .. a def whose last argument is handed in by its name -/
def KCallee (P : Program) (w : World) (K : PySem.W.Frag) (mg : Str → Option Value) (base : Heap) (xo : XO) (n : Nat) (nm : Str) (x : Str) (f : Fn) : Prop := ∃ (a : Addr) (fd : FuncData) (ps : List Str) (m : Nat) (g : List Value → List Value → List Value) (sp0 : Sp),
  FnOk P w K mg base (L2.CX P w) n a fd ps sp0 ∧ mg x = some (.ref a) ∧ PySem.W.keepIn K (.ref a) = true ∧ KBn K fd ps m [nm] g (fun vs zs => vs ++ zs) ∧ m + 1 = f.np ∧ ∀ vs H Q E, spFn K xo mg f vs H Q E → sp0 vs H Q E
def CalleeN (P : Program) (w : World) (K : PySem.W.Frag) (mg : Str → Option Value) (base : Heap) (xo : XO) (n : Nat) (x : Str) (f : Fn) : Option Str → Prop
  | none => Callee P w K mg base xo n x f
  | some nm => KCallee P w K mg base xo n nm x f
/-- the module's facts -/
structure XM (P : Program) (w : World) (K : PySem.W.Frag) (mg : Str → Option Value) (base : Heap) (A : Around) (cf : Cf) (G : List D) (Γ : List Fn) (xo : XO) : Prop where
  units : A.units + 65 < cLine
  glb : ∀ (k : Nat) (x : Str) (d : D), cf.gx[k]? = some x → G[k]? = some d → ∃ v u, mg x = some u ∧ RelV v u ∧ ∀ F, Den K xo F v d
  fun_ : ∀ (k : Nat) (x : Str), cf.fx[k]? = some x → ∃ f, Γ[k]? = some f ∧ ∃ n, CalleeN P w K mg base xo n x f (kwOf cf k) ∧ Room n A
  blt : ∀ x ∈ bNames, mg x = none
  exf : ExF K mg
  xof : ∀ k o, exNames.contains k = true → (xo k none o ↔ ∃ C a, mg k = some (.ref C) ∧ o = ExP (.ref C) a)
  cxs : ∀ c ∈ cf.cx, (c = ("ValueError" : Str) ∧ mg c = none) ∨ ∃ C, mg c = some (.ref C) ∧ exNames.contains c = true
  exc : ∀ x ∈ cf.ex, ∃ C, mg x = some (.ref C) ∧ PySem.W.excIn K C [.type "ValueError", .type "Exception", .type "BaseException", .type "object"] "ValueError.__new__" = true ∧ PySem.W.keepIn K (.ref C) = true ∧ PySem.W.subIn K (.ref C) (.type "BaseException") = some true ∧ PySem.W.typeIn K (.ref C) = some (.type "type")
  e1 : ∀ x ∈ cf.e1, ∃ n, E1 P w K mg base n x ∧ Room (n + 1) A
  xofi : ∀ k dx o, exNames.contains k = true → (xo k dx o ↔ ∃ C a, mg k = some (.ref C) ∧ o = ExD (.ref C) dx a)
/-- the def's code object and the table of its lambdas -/
def LamAt (X : Cx) (xo : XO) : Prop := X.A.depth < recursionLimit ∧ ∃ c P, X.env.code = .ref c ∧ LamX.TabB X.base X.mg c P ∧ (P, X.env.qual ++ "<lambda>") ∈ xo.T ∧ ∀ p ∈ xo.T, p.1 = P → p.2 = X.env.qual ++ "<lambda>"
structure XOk (X : Cx) (cf : Cf) (sc : Scope) (fc : Option Scope) (G : List D) (Γ : List Fn) (xo : XO) (W : WX) : Prop where
  m : XM X.prog X.w X.K X.mg X.base X.A cf G Γ xo
  hN : X.N = cf.N
  nd : cf.N.Nodup
  hsc : X.env.scope = sc
  calm : X.calm = true
  fn : ∀ x, stB sc fc x = true → X.fn x = true ∨ X.env.scope.names.lookup x = some .local
  tk : Takes X W
  lam : fc = none → cf.lm = true → LamAt X xo

section
variable {X : Cx} {cf : Cf} {sc : Scope} {fc : Option Scope} {G : List D} {Γ : List Fn} {xo : XO} {W : WX}
theorem okN_d {x : Str} (h : okN x = true) : (x == ("__debug__" : Str)) = false ∧ (x == ("__classdict__" : Str)) = false ∧ x ≠ ("__name__" : Str) := by
  unfold okN at h
  simp only [Bool.and_eq_true, Bool.not_eq_true'] at h
  exact ⟨h.1.1, h.1.2, fun e => by rw [e] at h; exact absurd h.2 (by decide)⟩
theorem atB_e {l : List Str} {i : Nat} {x : Str} (h : atB l i x = true) : l[i]? = some x := by
  unfold atB at h
  exact beq_iff_eq.mp h
theorem visB_e {x : Str} (h : visB sc x = true) : Vis sc x := by
  unfold visB at h
  split at h <;> first | exact .inl (by assumption) | exact .inr (.inl (by assumption)) | exact .inr (.inr (by assumption)) | cases h
theorem stB_loc {x : Str} (h : stB sc fc x = true) : Loc sc x := by
  unfold stB at h
  split at h <;> first | exact .inl (by assumption) | exact .inr (by assumption) | cases h
theorem XOk.nm (o : XOk X cf sc fc G Γ xo W) {i : Nat} {x : Str} (h : nmB cf sc i x = true) : X.N[i]? = some x ∧ Vis X.env.scope x ∧ (x == ("__debug__" : Str)) = false ∧ (x == ("__classdict__" : Str)) = false := by
  unfold nmB at h
  simp only [Bool.and_eq_true] at h
  rw [o.hN, o.hsc]
  exact ⟨atB_e h.1.1, visB_e h.1.2, (okN_d h.2).1, (okN_d h.2).2.1⟩
theorem XOk.gl (o : XOk X cf sc fc G Γ xo W) {x : Str} (h : glB sc x = true) : Gl X x := by
  show X.env.scope.names.lookup x = some .globalImplicit
  rw [o.hsc]
  exact beq_iff_eq.mp h
theorem starOf {e : Expr} {es : List Expr} {env : PySem.Env} (h : argB e = true) : starEach (e :: es) env = (false, eval e env) :: starEach es env := by
  cases e <;> first | rfl | cases h
theorem foldOf {e : Expr} {env : PySem.Env} (h : argB e = true) : ∀ x, foldedSetIterable e env x = pure x := by
  intro x
  cases e <;> first | rfl | cases h
theorem ckE_star {a : Ex} {e : Expr} (h : ckE cf sc fc a e = true) : argB e = true := by
  cases e <;> first | rfl | (cases a <;> first | exact absurd (show false = true from h) (by decide) | (rename_i c; cases c <;> exact absurd (show false = true from h) (by decide)))
theorem plainOf {e : Expr} (h : plainB e = true) : PlainIx e := by
  intro o i
  cases e <;> first | rfl | cases h
end

/-! ### posts, one after another -/
section
variable {K : PySem.W.Frag} {xo : XO} {mg : Str → Option Value} {G : List D} {Γ : List Fn} {W : WX} {B : FB} {σ : L2.St} {F F1 H : Hp} {e : Env} {α β : Type}
theorem PostX.sub {r : R α} {Q : α → Env → Hp → Hp → Prop} (h : PostX K xo mg W B σ F r Q) (s : Same F F1) : PostX K xo mg W B σ F1 r Q := by
  cases r with
  | bad => exact h
  | exn c ps e => exact fun cls dx H' F' r1 s1 x => h cls dx H' F' r1 (s.trans s1) x
  | ok v e => exact fun H' F' r1 s1 => h H' F' r1 (s.trans s1)
theorem PostX.imp {r : R α} {Q Q' : α → Env → Hp → Hp → Prop} (h : PostX K xo mg W B σ F r Q) (q : ∀ a e F1 H1, Rel K xo B F1 σ H1 e → Same F F1 → Q a e F1 H1 → Q' a e F1 H1) : PostX K xo mg W B σ F r Q' := by
  cases r with
  | bad => exact h
  | exn c ps e => exact h
  | ok v e => exact fun H' F' r1 s1 => q _ _ _ _ r1 s1 (h H' F' r1 s1)
theorem bindX {r : R α} {f : α → Env → R β} {Q : β → Env → Hp → Hp → Prop} (h : PostX K xo mg W B σ F (r.bind f) Q) : PostX K xo mg W B σ F r fun a e1 F1 _ => PostX K xo mg W B σ F1 (f a e1) Q := by
  cases r with
  | bad => exact h
  | exn c ps e => exact h
  | ok v e => exact fun H' F' r1 s1 => PostX.sub h s1
theorem bindXE {r : R α} {f : α → Env → R DV} {Q : VK} (h : PostE K xo mg W B σ F (r.bind f) Q) : PostX K xo mg W B σ F r fun a e1 F1 _ => PostE K xo mg W B σ F1 (f a e1) Q := by
  cases r with
  | bad => exact h
  | exn c ps e => exact h
  | ok v e => exact fun H' F' r1 s1 => PostE.sub h s1
/-- one term, and what follows it, to some other end -/
theorem tE_bindX {a : Ex} {f : DV → Env → R β} {Q : β → Env → Hp → Hp → Prop} {T : V → Hp → Prop} (r : Rel K xo B F σ H e) (h : PostX K xo mg W B σ F ((evE G Γ a e).bind f) Q) (hf : ∀ x y e, x.fz = y.fz → f x e = f y e)
    (k : ∀ (x : D) e1 v H1 F1, Rel K xo B F1 σ H1 e1 → Same F F1 → Den K xo F1 v x → PostX K xo mg W B σ F1 (f (.d x) e1) Q → T v H1) : tE K xo mg G Γ W a σ H T := by
  refine ⟨B, F, e, r, ?_⟩
  cases q : evE G Γ a e with
  | bad => rw [q] at h; exact h.elim
  | exn c ps e1 => rw [q] at h; exact h
  | ok x e1 =>
    rw [q] at h
    cases x with
    | d x => exact fun v H' F' r1 s1 x1 => k x e1 v H' F' r1 s1 x1 (PostX.sub h s1)
    | fr ds =>
      refine fun p vs H' F' r1 s1 hp hF x1 h0 ho => ?_
      have s2 := s1.trans (same_upd (o := HO.lst vs) hF)
      have h' : PostX K xo mg W B σ F (f (.d (.list ds)) e1) Q := by
        rw [← hf (.fr ds) (.d (.list ds)) e1 rfl]
        exact h
      exact k (.list ds) e1 (.ref p) H' (upd F' p (.lst vs)) (r1.freeze hF hp h0 ho) s2 (.lst upd_same (x1.mono (same_upd hF))) (PostX.sub h' s2)
end

/-! ### targets -/
section
variable {K : PySem.W.Frag} {xo : XO} {B : FB} {F H : Hp} {σ : L2.St} {e : Env}
def gT (K : PySem.W.Frag) (xo : XO) (t : Tg) : TG := fun v σ H Q => ∃ B F e d e2, Rel K xo B F σ H e ∧ Den K xo F v d ∧ bindT t d e = some e2 ∧ ∀ σ', Rel K xo B F σ' H e2 → (∀ k, k ∉ tgS t → σ'[k]? = σ[k]?) → Q σ' H
def gTs (K : PySem.W.Frag) (xo : XO) (ts : List Tg) : TGs := fun vs σ H Q => ∃ B F e ds e2, Rel K xo B F σ H e ∧ DenAll K xo F vs ds ∧ bindTs ts ds e = some e2 ∧ ∀ σ', Rel K xo B F σ' H e2 → (∀ k, k ∉ tgSs ts → σ'[k]? = σ[k]?) → Q σ' H
end
theorem PG.imp {X : Cx} {e : Expr} {t t' : TG} (h : PG X e t) (i : ∀ v σ H Q, t' v σ H Q → t v σ H Q) : PG X e t' := ⟨fun pins s σ H v u Q I r q => h.run pins s σ H v u Q I r (i v σ H Q q)⟩
theorem PGs.imp {X : Cx} {e : List Expr} {t t' : TGs} (h : PGs X e t) (i : ∀ v σ H Q, t' v σ H Q → t v σ H Q) : PGs X e t' := ⟨fun pins s σ H v u Q I r q => h.run pins s σ H v u Q I r (i v σ H Q q)⟩
section
variable {X : Cx} {cf : Cf} {sc : Scope} {fc : Option Scope} {G : List D} {Γ : List Fn} {xo : XO} {W : WX}
theorem assignOf {cf : Cf} {t : Tg} {e : Expr} (h : ckTg cf sc fc t e = true) (es : List Expr) (env : PySem.Env) : assignEach (e :: es) env = (false, assign e env) :: assignEach es env := by
  cases e <;> first | rfl | (cases t <;> exact nomatch h)
theorem ckTgs_len {cf : Cf} : ∀ {ts : List Tg} {es : List Expr} {env : PySem.Env}, ckTgs cf sc fc ts es = true → (assignEach es env).length = ts.length ∧ (assignEach es env).findIdx? (·.1) = none
  | [], [], _, _ => ⟨rfl, rfl⟩
  | t :: ts, e :: es, env, h => by
    have h' : (ckTg cf sc fc t e && ckTgs cf sc fc ts es) = true := h
    rw [Bool.and_eq_true] at h'
    obtain ⟨q1, q2⟩ := ckTgs_len (env := env) h'.2
    rw [assignOf h'.1]
    refine ⟨by simp [q1], ?_⟩
    rw [List.findIdx?_cons]
    simp [q2]
  | [], _ :: _, _, h => nomatch h
  | _ :: _, [], _, h => nomatch h
mutual
theorem pg_ok (o : XOk X cf sc fc G Γ xo W) : ∀ (t : Tg) (e : Expr), ckTg cf sc fc t e = true → PG X e (gT X.K xo t)
  | .nm i, e, h => by
    cases e with
    | Name x pos =>
      have h' : (atB cf.N i x && stB sc fc x) = true := h
      rw [Bool.and_eq_true] at h'
      have hl : Loc X.env.scope x := by rw [o.hsc]; exact stB_loc h'.2
      refine PG.imp (pg_name (i := i) (by rw [o.hN]; exact o.nd) (by rw [o.hN]; exact atB_e h'.1) hl (o.fn x h'.2)) fun v σ H Q q => ?_
      obtain ⟨B, F, e, d, e2, r, dv, hb, k⟩ := q
      have hb' := Option.some.inj hb
      subst hb'
      refine k _ (r.setVal dv) fun j hj => ?_
      have ne : i ≠ j := fun z => hj (by rw [z]; exact List.mem_singleton.mpr rfl)
      rw [List.getElem?_set_ne ne]
    | _ => exact nomatch h
  | .tp ts, e, h => by
    cases e with
    | Tuple es k pos =>
      have h' : ckTgs cf sc fc ts es = true := h
      obtain ⟨q1, q2⟩ := ckTgs_len (env := X.env) h'
      have ps := pgs_ok o ts es h'
      refine ⟨fun pins s σ H v u Q I rv q => ?_⟩
      obtain ⟨B, F, e, d, e2, r, dv, hb, kk⟩ := q
      have fin : ∀ {xs : List V} {ds : List D}, DenAll X.K xo F xs ds → bindTs ts ds e = some e2 → gTs X.K xo ts xs σ H Q := fun {xs ds} da hbs => ⟨B, F, e, ds, e2, r, da, hbs, kk⟩
      have len : ∀ {ts : List Tg} {ds : List D} {e e2 : Env}, bindTs ts ds e = some e2 → ds.length = ts.length := by
        intro ts
        induction ts with
        | nil => intro ds e e2 z; cases ds with
          | nil => rfl
          | cons _ _ => cases z
        | cons t ts ih => intro ds e e2 z; cases ds with
          | nil => cases z
          | cons x xs =>
            have z' : (match bindT t x e with | some e1 => bindTs ts xs e1 | none => none) = some e2 := z
            split at z'
            · simp [ih z']
            · cases z'
      cases dv with
      | tup hs da =>
        have hbs : bindTs ts _ e = some e2 := hb
        exact (pg_tup (n := ts.length) o.calm ps q1 q2).run pins s σ H _ u Q I rv ⟨_, _, rfl, sqt_mono r.sub hs, by rw [da.length, len hbs], fin da hbs⟩
      | lst hs da =>
        have hbs : bindTs ts _ e = some e2 := hb
        exact (pg_lst (n := ts.length) o.calm ps q1 q2).run pins s σ H _ u Q I rv ⟨_, _, rfl, .inl (.inl (r.sub _ _ hs)), by rw [da.length, len hbs], fin da hbs⟩
      | non => cases hb
      | bl _ => cases hb
      | int _ => cases hb
      | str _ => cases hb
      | scr _ _ => cases hb
      | exc0 _ _ => cases hb
      | exc1 _ _ _ _ => cases hb
      | dic0 _ => cases hb
    | _ => exact nomatch h
theorem pgs_ok (o : XOk X cf sc fc G Γ xo W) : ∀ (ts : List Tg) (es : List Expr), ckTgs cf sc fc ts es = true → PGs X es (gTs X.K xo ts)
  | [], [], _ => PGs.imp pgs_nil fun vs σ H Q q => by
    obtain ⟨B, F, e, ds, e2, r, da, hb, k⟩ := q
    cases da with
    | nil =>
      have hb' := Option.some.inj hb
      subst hb'
      exact ⟨rfl, k _ r fun _ _ => rfl⟩
    | cons _ _ => cases hb
  | t :: ts, e :: es, h => by
    have h' : (ckTg cf sc fc t e && ckTgs cf sc fc ts es) = true := h
    rw [Bool.and_eq_true] at h'
    refine PGs.imp (pgs_cons (pg_ok o t e h'.1) (pgs_ok o ts es h'.2) (by rw [assignOf h'.1]; rfl)) fun vs σ H Q q => ?_
    obtain ⟨B, F, e, ds, e2, r, da, hb, k⟩ := q
    cases da with
    | nil => cases hb
    | cons d1 dr =>
      rename_i v vr d dsr
      have z' : (match bindT t d e with | some e1 => bindTs ts dsr e1 | none => none) = some e2 := hb
      refine ⟨v, vr, rfl, ?_⟩
      cases hb1 : bindT t d e with
      | none => rw [hb1] at z'; cases z'
      | some e1 =>
        rw [hb1] at z'
        refine ⟨B, F, e, d, e1, r, d1, hb1, fun σ1 r1 k1 => ⟨B, F, e1, dsr, e2, r1, dr, z', fun σ2 r2 k2 => k σ2 r2 fun j hj => ?_⟩⟩
        have hj' : j ∉ tgS t ∧ j ∉ tgSs ts := by
          have : j ∉ tgS t ++ tgSs ts := hj
          simpa [List.mem_append, not_or] using this
        rw [k2 j hj'.2, k1 j hj'.1]
  | [], _ :: _, h => nomatch h
  | _ :: _, [], h => nomatch h
end
end
end DL


set_option Elab.async false
set_option linter.all false
set_option maxRecDepth 100000
set_option maxHeartbeats 2000000
/-! DL14: a comprehension's turns by data. -/
namespace DL
open PySem PySem.Spec PyProof.Rows L2

section
variable {K : PySem.W.Frag} {xo : XO} {B : FB} {F F' H H' : Hp} {σ σ' : L2.St} {e e' : Env}
/-- fewer slots held -/
theorem Rel.part (r : Rel K xo B F σ H e) (hl : σ'.length = e'.length) (h : ∀ (i : Nat) s, e'[i]? = some s → s = .un ∨ (e[i]? = some s ∧ σ'[i]? = σ[i]?)) : Rel K xo B F σ' H e' where
  sub := r.sub
  sub0 := r.sub0
  new := r.new
  hpa := r.hpa
  keep := r.keep
  tbk := r.tbk
  tabs := r.tabs
  ob := r.ob
  len := hl
  val := fun i d q => by
    rcases h i _ q with z | ⟨z1, z2⟩
    · cases z
    · rw [z2]; exact r.val i d z1
  own := fun i p ds q => by
    rcases h i _ q with z | ⟨z1, z2⟩
    · cases z
    · rw [z2]; exact r.own i p ds z1
  sep := fun i j a p q ds es h1 h2 h3 h4 => by
    rcases h i _ h1 with z | ⟨z1, z2⟩
    · cases z
    · rcases h j _ h2 with y | ⟨y1, y2⟩
      · cases y
      · rw [z2] at h3
        rw [y2] at h4
        exact r.sep i j a p q ds es z1 y1 h3 h4
/-- a list that no slot holds is written -/
theorem Rel.writeFree (r : Rel K xo B F σ H e) {p : Addr} {o : HO} (hF : F p = none) (h0 : B.H0 p = none) (ho : ∀ (i : Nat) pp ds, e[i]? = some (.own pp ds) → σ[i]? ≠ some (some (.ref p))) (tb : LamX.Tabs xo.T (upd H p o)) : Rel K xo B F σ (upd H p o) e where
  sub := fun a u q => by
    have ne : a ≠ p := fun z => by rw [z, hF] at q; cases q
    rw [upd_ne ne]; exact r.sub a u q
  sub0 := r.sub0
  new := r.new
  hpa := r.hpa
  keep := fun a u q z t => by
    have ne : a ≠ p := fun z => by rw [z, h0] at q; cases q
    rw [upd_ne ne]; exact r.keep a u q z t
  tbk := fun a ps q => by
    have ne : a ≠ p := fun z => by rw [z, h0] at q; cases q
    rw [upd_ne ne]; exact r.tbk a ps q
  tabs := ⟨tb, r.tabs.nt⟩
  ob := fun a z => by
    by_cases q : a = p
    · subst q; rw [upd_same]; exact fun x => nomatch x
    · rw [upd_ne q]; exact r.ob a z
  len := r.len
  val := r.val
  own := fun i pp ds q => by
    obtain ⟨a, vs, h1, h2, h3, h4, h5⟩ := r.own i pp ds q
    have ne : a ≠ p := fun z => ho i pp ds q (by rw [← z]; exact h1)
    exact ⟨a, vs, h1, by rw [upd_ne ne]; exact h2, h3, h4, h5⟩
  sep := r.sep
theorem wipeE_len (e : Env) : ∀ vs : List Nat, (wipeE e vs).length = e.length
  | [] => rfl
  | v :: vs => by
    show ((wipeE e vs).set v .un).length = _
    rw [List.length_set, wipeE_len e vs]
theorem wipeE_get {e : Env} {i : Nat} {s : Slot} : ∀ {vs : List Nat}, (wipeE e vs)[i]? = some s → s = .un ∨ (i ∉ vs ∧ e[i]? = some s)
  | [], h => .inr ⟨by simp, h⟩
  | v :: vs, h => by
    rcases getSet h with ⟨_, z⟩ | ⟨z, h⟩
    · exact .inl z
    · rcases wipeE_get h with y | ⟨y1, y2⟩
      · exact .inl y
      · exact .inr ⟨by simp only [List.mem_cons, not_or]; exact ⟨fun q => z q.symm, y1⟩, y2⟩
theorem wipe_get {σ : L2.St} {i : Nat} : ∀ {vs : List Nat}, i ∉ vs → (wipe σ vs)[i]? = σ[i]?
  | [], _ => rfl
  | v :: vs, h => by
    simp only [List.mem_cons, not_or] at h
    show ((wipe σ vs).set v none)[i]? = _
    rw [List.getElem?_set_ne (fun z => h.1 z.symm), wipe_get h.2]
theorem wipe_cong {σ σ2 : L2.St} {i : Nat} {vs : List Nat} (h : wipe σ2 vs = wipe σ vs) (hi : i ∉ vs) : σ2[i]? = σ[i]? := by
  rw [← wipe_get (σ := σ2) hi, h, wipe_get hi]
theorem wipe_out {σ σ2 : L2.St} {vs : List Nat} (hl : σ2.length = σ.length) (h : ∀ i, i ∉ vs → σ2[i]? = (wipe σ vs)[i]?) : wipe σ2 vs = wipe σ vs := by
  have key : ∀ (us : List Nat) (i : Nat), (∀ j, j ∉ vs → j ∈ us → False) → (wipe σ2 us)[i]? = (if i ∈ us ∧ i < σ2.length then some none else σ2[i]?) ∧ (wipe σ us)[i]? = (if i ∈ us ∧ i < σ.length then some none else σ[i]?) := by
    intro us
    induction us with
    | nil => intro i _; simp [wipe]
    | cons v us ih =>
      intro i hu
      obtain ⟨h1, h2⟩ := ih i fun j hj hm => hu j hj (List.mem_cons_of_mem _ hm)
      show ((wipe σ2 us).set v none)[i]? = _ ∧ ((wipe σ us).set v none)[i]? = _
      rw [List.getElem?_set, List.getElem?_set, wipe_length, wipe_length, h1, h2]
      by_cases z : v = i
      · subst z
        simp only [if_true, List.mem_cons, true_or, true_and]
        constructor
        · split
          · rfl
          · exact (List.getElem?_eq_none (by omega)).symm
        · split
          · rfl
          · exact (List.getElem?_eq_none (by omega)).symm
      · have zi : ¬ i = v := fun q => z q.symm
        simp only [if_neg z, List.mem_cons, zi, false_or, and_self]
  apply List.ext_getElem?
  intro i
  obtain ⟨h1, h2⟩ := key vs i fun j hj hm => hj hm
  rw [h1, h2, hl]
  by_cases hi : i ∈ vs
  · by_cases hlt : i < σ.length
    · rw [if_pos ⟨hi, hlt⟩, if_pos ⟨hi, hlt⟩]
    · rw [if_neg (fun q => hlt q.2), if_neg (fun q => hlt q.2), List.getElem?_eq_none (by omega), List.getElem?_eq_none (by omega)]
  · rw [if_neg (fun q => hi q.1), if_neg (fun q => hi q.1), h i hi, wipe_get hi]
theorem Rel.wiped (r : Rel K xo B F σ H e) {σ2 : L2.St} {vs : List Nat} (h : wipe σ vs = wipe σ2 vs) : Rel K xo B F (wipe σ2 vs) H (wipeE e vs) :=
  r.part (by rw [← h, wipe_length, wipeE_len]; exact r.len) fun i s q => by
    rcases wipeE_get q with z | ⟨z1, z2⟩
    · exact .inl z
    · exact .inr ⟨z2, by rw [← h, wipe_get z1]⟩
theorem putBack_len (e0 e : Env) : ∀ vs : List Nat, (putBack e0 e vs).length = e.length
  | [] => rfl
  | v :: vs => by
    show (match e0[v]? with | some s => (putBack e0 e vs).set v s | none => putBack e0 e vs).length = _
    split
    · rw [List.length_set, putBack_len e0 e vs]
    · exact putBack_len e0 e vs
theorem putBack_get {e0 e : Env} {i : Nat} {s : Slot} (hl : e0.length = e.length) : ∀ {vs : List Nat}, (putBack e0 e vs)[i]? = some s → (i ∈ vs ∧ e0[i]? = some s) ∨ (i ∉ vs ∧ e[i]? = some s)
  | [], h => .inr ⟨by simp, h⟩
  | v :: vs, h => by
    have h' : (match e0[v]? with | some s => (putBack e0 e vs).set v s | none => putBack e0 e vs)[i]? = some s := h
    cases q : e0[v]? with
    | some t =>
      rw [q] at h'
      rcases getSet h' with ⟨z1, z2⟩ | ⟨z, h2⟩
      · subst z1 z2
        exact .inl ⟨List.mem_cons_self, q⟩
      · rcases putBack_get hl h2 with ⟨y1, y2⟩ | ⟨y1, y2⟩
        · exact .inl ⟨List.mem_cons_of_mem _ y1, y2⟩
        · exact .inr ⟨by simp only [List.mem_cons, not_or]; exact ⟨fun q => z q.symm, y1⟩, y2⟩
    | none =>
      rw [q] at h'
      have hv : e.length ≤ v := by rw [← hl]; exact List.getElem?_eq_none_iff.mp q
      rcases putBack_get hl h' with ⟨y1, y2⟩ | ⟨y1, y2⟩
      · exact .inl ⟨List.mem_cons_of_mem _ y1, y2⟩
      · refine .inr ⟨?_, y2⟩
        simp only [List.mem_cons, not_or]
        refine ⟨fun z => ?_, y1⟩
        subst z
        have := (List.getElem?_eq_some_iff.mp y2).1
        omega
theorem plainAt_e {e : Env} {vs : List Nat} (h : plainAt e vs = true) {i : Nat} (hi : i ∈ vs) {p : Bool} {ds : List D} : e[i]? ≠ some (.own p ds) := fun q => by
  have := List.all_eq_true.mp h i hi
  rw [q] at this
  cases this
/-- the block's slots are as they were -/
theorem Rel.putB {F1 H1 : Hp} {e1 : Env} {vs : List Nat} (r1 : Rel K xo B F1 σ H1 e1) (s : Same F1 F) (pl : plainAt e1 vs = true) (hl : e1.length = e.length) (r : Rel K xo B F (wipe σ vs) H (wipeE e vs)) : Rel K xo B F σ H (putBack e1 e vs) where
  sub := r.sub
  sub0 := r.sub0
  new := r.new
  hpa := r.hpa
  keep := r.keep
  tbk := r.tbk
  tabs := r.tabs
  ob := r.ob
  len := by rw [putBack_len, ← hl]; exact r1.len
  val := fun i d q => by
    rcases putBack_get hl q with ⟨_, z⟩ | ⟨z1, z2⟩
    · obtain ⟨v, g1, g2⟩ := r1.val i d z
      exact ⟨v, g1, g2.mono s⟩
    · have hw : (wipeE e vs)[i]? = some (.val d) := by
        have : ∀ {us : List Nat}, i ∉ us → (wipeE e us)[i]? = e[i]? := by
          intro us
          induction us with
          | nil => intro _; rfl
          | cons v us ih =>
            intro hi
            simp only [List.mem_cons, not_or] at hi
            show ((wipeE e us).set v .un)[i]? = _
            rw [List.getElem?_set_ne (fun z => hi.1 z.symm), ih hi.2]
        rw [this z1]; exact z2
      obtain ⟨v, g1, g2⟩ := r.val i d hw
      exact ⟨v, by rw [← wipe_get z1]; exact g1, g2⟩
  own := fun i p ds q => by
    rcases putBack_get hl q with ⟨z1, z⟩ | ⟨z1, z2⟩
    · exact absurd z (plainAt_e pl z1)
    · have hw : (wipeE e vs)[i]? = some (.own p ds) := by
        have : ∀ {us : List Nat}, i ∉ us → (wipeE e us)[i]? = e[i]? := by
          intro us
          induction us with
          | nil => intro _; rfl
          | cons v us ih =>
            intro hi
            simp only [List.mem_cons, not_or] at hi
            show ((wipeE e us).set v .un)[i]? = _
            rw [List.getElem?_set_ne (fun z => hi.1 z.symm), ih hi.2]
        rw [this z1]; exact z2
      obtain ⟨a, us, g1, g2⟩ := r.own i p ds hw
      exact ⟨a, us, by rw [← wipe_get z1]; exact g1, g2⟩
  sep := fun i j a p q ds es h1 h2 h3 h4 => by
    have un : ∀ {i : Nat} {s : Slot}, i ∉ vs → e[i]? = some s → (wipeE e vs)[i]? = some s := by
      intro i s hi hs
      have : ∀ {us : List Nat}, i ∉ us → (wipeE e us)[i]? = e[i]? := by
        intro us
        induction us with
        | nil => intro _; rfl
        | cons v us ih =>
          intro hi
          simp only [List.mem_cons, not_or] at hi
          show ((wipeE e us).set v .un)[i]? = _
          rw [List.getElem?_set_ne (fun z => hi.1 z.symm), ih hi.2]
      rw [this hi]; exact hs
    rcases putBack_get hl h1 with ⟨z1, z⟩ | ⟨z1, z2⟩
    · exact absurd z (plainAt_e pl z1)
    · rcases putBack_get hl h2 with ⟨y1, y⟩ | ⟨y1, y2⟩
      · exact absurd y (plainAt_e pl y1)
      · exact r.sep i j a p q ds es (un z1 z2) (un y1 y2) (by rw [wipe_get z1]; exact h3) (by rw [wipe_get y1]; exact h4)
end

section
variable (K : PySem.W.Frag) (xo : XO) (mg : Str → Option Value) (G : List D) (Γ : List Fn) (W : WX)
def tX {α : Type} (ev : Env → R α) (k : α → Env → Hp → Hp → Prop) (σ : L2.St) (H : Hp) : Prop := ∃ B F e, Rel K xo B F σ H e ∧ PostX K xo mg W B σ F (ev e) k
def tI (it : It) : TI := fun σ H R => tX K xo mg W (evIt G Γ it) (fun ds _ F1 H1 => ∀ J, Wk K xo J F1 ds → R J H1) σ H
def tO (o : Op) : TO := fun σ H Q => tX K xo mg W (evOp G Γ o) (fun i _ _ H1 => Q i H1) σ H
def tOT (o : Op) : TT := fun σ H Q => tX K xo mg W (evOpT G Γ o) (fun i _ _ H1 => Q i H1) σ H
def tT (a : Ex) : TT := fun σ H Q => tX K xo mg W (evT G Γ a) (fun i _ _ H1 => Q i H1) σ H
def W0 : WX := fun _ _ _ _ => False
def bodyC (x : Ex) (vs : List Nat) (g : Tg) (c : Op) : D → Env → R (Option D) := fun z e2 => match bindT g z (wipeE e2 vs) with
  | none => .bad
  | some e3 => (evOpT G Γ c e3).bind fun b e4 => if b then (evE G Γ x e4).bind fun y e5 => .ok (some y.fz) e5 else .ok none e4
def restC (x : Ex) (vs : List Nat) (g : Tg) (c : Op) (xs : List D) (e1 : Env) : R DV := if plainAt e1 vs then
      (match compGo (bodyC G Γ x vs g c) xs (wipeE e1 vs) with
      | .ok ys e6 => if ys.length ≤ lim then .ok (.fr ys) (putBack e1 e6 vs) else .bad
      | _ => .bad) else .bad
theorem evE_comp (x : Ex) (vs : List Nat) (g : Tg) (it : It) (c : Op) (e : Env) : evE G Γ (.comp x vs g it c) e = (evIt G Γ it e).bind (restC G Γ x vs g c) := rfl
end
theorem compGo_cons {f : D → Env → R (Option D)} {x : D} {xs zs : List D} {e e6 : Env} (h : compGo f (x :: xs) e = .ok zs e6) : ∃ o e1 ys, f x e = .ok o e1 ∧ compGo f xs e1 = .ok ys e6 ∧ zs = (match o with | some y => y :: ys | none => ys) := by
  have h' : (match f x e with
    | .ok o e1 => match compGo f xs e1 with
      | .ok ys e2 => R.ok (match o with | some y => y :: ys | none => ys) e2
      | _ => .bad
    | _ => .bad) = .ok zs e6 := h
  cases q : f x e with
  | bad => rw [q] at h'; cases h'
  | exn _ _ _ => rw [q] at h'; cases h'
  | ok o e1 =>
    rw [q] at h'
    cases q2 : compGo f xs e1 with
    | bad => simp only [q2] at h'; cases h'
    | exn _ _ _ => simp only [q2] at h'; cases h'
    | ok ys e2 =>
      simp only [q2] at h'
      injection h' with h1 h2
      subst h2
      exact ⟨o, e1, ys, rfl, q2, h1.symm⟩
theorem bind_ok {α β : Type} {r : R α} {f : α → Env → R β} {b : β} {e : Env} (h : r.bind f = .ok b e) : ∃ a e1, r = .ok a e1 ∧ f a e1 = .ok b e := by
  cases r with
  | ok a e1 => exact ⟨a, e1, rfl, h⟩
  | bad => cases h
  | exn _ _ _ => cases h

section
variable {K : PySem.W.Frag} {xo : XO} {mg : Str → Option Value} {G : List D} {Γ : List Fn} {W : WX} {σ : L2.St} {H : Hp} {Q : VK}
/-- lengths stay -/
theorem bindT_len : ∀ {t : Tg} {d : D} {e e2 : Env}, bindT t d e = some e2 → True := fun _ => trivial
theorem comp_ok {x : Ex} {vs : List Nat} {g : Tg} {it : It} {c : Op} (hg : ∀ i ∈ tgS g, i ∈ vs) (h : tE K xo mg G Γ W (.comp x vs g it c) σ H Q) :
    tLc (tI K xo mg G Γ W it) (gT K xo g) (tOT K xo mg G Γ W0 c) (tE K xo mg G Γ W0 x) vs σ H Q := by
  obtain ⟨B, F, e, r, h⟩ := h
  rw [evE_comp] at h
  refine ⟨B, F, e, r, PostX.imp (bindXE h) fun xs e1 F1 H1 r1 s1 hp J wk Da hDa => ?_⟩
  unfold restC at hp
  cases pl : plainAt e1 vs with
  | false => rw [pl] at hp; exact hp.elim
  | true =>
  rw [pl, if_pos rfl] at hp
  cases hc : compGo (bodyC G Γ x vs g c) xs (wipeE e1 vs) with
  | bad => rw [hc] at hp; exact hp.elim
  | exn _ _ _ => rw [hc] at hp; exact hp.elim
  | ok ys e6 =>
  rw [hc] at hp
  have hp : PostE K xo mg W B σ F1 (if ys.length ≤ lim then .ok (.fr ys) (putBack e1 e6 vs) else .bad) Q := hp
  by_cases hly : ys.length ≤ lim
  rotate_left
  · rw [if_neg hly] at hp; exact hp.elim
  rw [if_pos hly] at hp
  have h0 : B.H0 Da = none := r1.h0 hDa
  let Pv : Nat → Hp → Prop := fun i H => ∃ (F' : Hp) (e' : Env) (acc : List V) (as zs : List D), Same F1 F' ∧ Rel K xo B F' (wipe σ vs) H (wipeE e' vs) ∧ e'.length = e1.length ∧
    (∀ (k : Nat) pp ds, (wipeE e' vs)[k]? = some (.own pp ds) → (wipe σ vs)[k]? ≠ some (some (.ref Da))) ∧ H Da = some (.lst acc) ∧ F' Da = none ∧ DenAll K xo F' acc as ∧
    compGo (bodyC G Γ x vs g c) (xs.drop i) e' = .ok zs e6 ∧ as ++ zs = ys
  have wl : (wipeE e1 vs).length = e1.length := wipeE_len e1 vs
  have ww : ∀ e : Env, wipeE (wipeE e vs) vs = wipeE e vs ∨ True := fun _ => .inr trivial
  refine ⟨fun i m H => m = xs.length - i ∧ i ≤ xs.length ∧ Pv i H, ⟨_, rfl, Nat.zero_le _, ?_⟩, ?_⟩
  · have rw1 : Rel K xo B F1 (wipe σ vs) H1 (wipeE (wipeE e1 vs) vs) := by
      refine r1.part (by rw [wipe_length, wipeE_len, wl]; exact r1.len) fun i s q => ?_
      rcases wipeE_get q with z | ⟨z1, z2⟩
      · exact .inl z
      · rcases wipeE_get z2 with y | ⟨y1, y2⟩
        · exact .inl y
        · exact .inr ⟨y2, wipe_get z1⟩
    exact ⟨F1, wipeE e1 vs, [], [], ys, Same.refl _, rw1.fresh hDa, wl, fun k pp ds q => rw1.ownNe hDa k pp ds q, upd_same, r1.f0 hDa, .nil, hc, rfl⟩
  · rintro i m H2 ⟨rfl, hi, F', e', acc, as, zs, s', R', le, no, hD, hF, da, hgo, hz⟩
    obtain ⟨wgo, wst⟩ := wk s' R'
    by_cases hlt : i < xs.length
    rotate_left
    · -- the end
      have ei : i = xs.length := by omega
      subst ei
      refine .inl ⟨wst, ?_⟩
      rw [List.drop_length] at hgo
      injection hgo with e1' e2'
      subst e2'
      rw [← e1', List.append_nil] at hz
      subst hz
      have RP : Rel K xo B F' σ H2 (putBack e1 e' vs) := r1.putB s' pl le.symm R'
      refine hp Da acc H2 F' RP s' hD hF da (.inl h0) fun k pp ds q => ?_
      rcases putBack_get le.symm q with ⟨z1, z⟩ | ⟨z1, z2⟩
      · exact absurd z (plainAt_e pl z1)
      · rw [← wipe_get z1]
        refine no k pp ds ?_
        have : ∀ {us : List Nat}, k ∉ us → (wipeE e' us)[k]? = e'[k]? := by
          intro us
          induction us with
          | nil => intro _; rfl
          | cons v us ih =>
            intro hi
            simp only [List.mem_cons, not_or] at hi
            show ((wipeE e' us).set v .un)[k]? = _
            rw [List.getElem?_set_ne (fun z => hi.1 z.symm), ih hi.2]
        rw [this z1]; exact z2
    · -- a turn
      have hx : xs[i]? = some xs[i] := by simp [hlt]
      obtain ⟨go, yl⟩ := wgo i _ hx
      refine .inr ⟨go, Pv (i + 1), fun H' q => ⟨xs.length - (i + 1), by omega, rfl, hlt, q⟩, fun xv H3 y3 => ?_⟩
      -- at this ground
      obtain ⟨wgo2, _⟩ := wk s' R'.now
      obtain ⟨_, yl2⟩ := wgo2 i _ hx
      obtain ⟨F3, s3, R3, d3⟩ := yl2 xv H3 y3
      have hD3 : H3 Da = some (.lst acc) := R3.keep Da _ hD (fun ⟨k, pp, ds, q1, q2⟩ => no k pp ds q1 q2) (fun ps e => nomatch e)
      have hF3 : F3 Da = none := by
        cases z : F3 Da with
        | none => rfl
        | some o =>
          rcases R3.new Da (by rw [z]; exact fun z => nomatch z) with q | q | ⟨⟨k, pp, ds, q1, q2⟩, _⟩
          · exact absurd hF q
          rotate_left
          · exact absurd q2 (no k pp ds q1)
          · have q' : H2 Da = none := q
            rw [hD] at q'; cases q'
      have R3' : Rel K xo B F3 (wipe σ vs) H3 (wipeE e' vs) := R'.back R3
      have no3 := no
      rw [List.drop_eq_getElem_cons hlt] at hgo
      obtain ⟨o, e7, ys7, hf, hgo7, hzs⟩ := compGo_cons hgo
      unfold bodyC at hf
      cases hb : bindT g xs[i] (wipeE e' vs) with
      | none => rw [hb] at hf; cases hf
      | some e3 =>
      rw [hb] at hf
      obtain ⟨b, e4, hT, hf⟩ := bind_ok hf
      have RN : Rel K xo (B.now F3 H3 (wipe σ vs) (wipeE e' vs)) F3 (wipe σ vs) H3 (wipeE e' vs) := R3'.now
      refine ⟨B.now F3 H3 (wipe σ vs) (wipeE e' vs), F3, wipeE e' vs, xs[i], e3, RN, d3, hb, fun σ2 R4 k4 => ?_⟩
      have hl2 : σ2.length = σ.length := by
        have a1 := R4.len
        have a2 : e3.length = (wipeE e' vs).length := by
          have bl : ∀ {t : Tg} {d : D} {e e2 : Env}, bindT t d e = some e2 → e2.length = e.length := by
            intro t
            refine Tg.rec (motive_1 := fun t => ∀ {d : D} {e e2 : Env}, bindT t d e = some e2 → e2.length = e.length) (motive_2 := fun ts => ∀ {ds : List D} {e e2 : Env}, bindTs ts ds e = some e2 → e2.length = e.length) ?_ ?_ ?_ ?_ t
            · intro i d e e2 z
              have z' := Option.some.inj z
              rw [← z', List.length_set]
            · intro ts ih d e e2 z
              cases d with
              | tuple xs => exact ih (ds := xs) z
              | list xs => exact ih (ds := xs) z
              | none => cases z
              | bool _ => cases z
              | int _ => cases z
              | str _ => cases z
              | dict _ => cases z
            · intro ds e e2 z
              cases ds with
              | nil => have z' := Option.some.inj z; rw [z']
              | cons _ _ => cases z
            · intro t ts ih1 ih2 ds e e2 z
              cases ds with
              | nil => cases z
              | cons d ds =>
                have z' : (match bindT t d e with | some e1 => bindTs ts ds e1 | none => none) = some e2 := z
                split at z'
                · rename_i e1' hh
                  rw [ih2 z', ih1 hh]
                · cases z'
          exact bl hb
        rw [a1, a2, wipeE_len, le]
        exact r1.len.symm
      have hw2 : wipe σ2 vs = wipe σ vs := wipe_out hl2 fun j hj => k4 j fun z => hj (hg j z)
      refine ⟨hw2, _, _, _, R4, ?_⟩
      show PostX K xo mg W0 _ σ2 F3 (evOpT G Γ c e3) _
      rw [hT]
      intro H5 F5 R5 s5
      -- behind the test, behind the item: the same end
      have fin : ∀ {e8 : Env} {F8 H8 : Hp}, Rel K xo (B.now F3 H3 (wipe σ vs) (wipeE e' vs)) F8 σ2 H8 e8 → Same F3 F8 → Rel K xo B F8 (wipe σ vs) H8 (wipeE e8 vs) ∧ e8.length = e1.length ∧
          (∀ (k : Nat) pp ds, (wipeE e8 vs)[k]? = some (.own pp ds) → (wipe σ vs)[k]? ≠ some (some (.ref Da))) ∧ H8 Da = some (.lst acc) ∧ F8 Da = none := fun {e8 F8 H8} R8 s8 => by
        have RB : Rel K xo B F8 σ2 H8 e8 := R3'.back R8
        have RW : Rel K xo B F8 (wipe σ vs) H8 (wipeE e8 vs) := RB.wiped hw2
        refine ⟨RW, by rw [← R8.len, hl2, r1.len], fun k pp ds q z => ?_, R8.keep Da _ hD3 (fun ⟨k, pp, ds, q1, q2⟩ => no k pp ds q1 q2) (fun ps e => nomatch e), ?_⟩
        · rcases wipeE_get q with y | ⟨y1, y2⟩
          · cases y
          · rw [← hw2, wipe_get y1] at z
            obtain ⟨a, us, g1, g2, g3, g4, g5, g6⟩ := R8.own k pp ds y2
            rw [g1] at z
            injection z with z
            injection z with z
            injection z with z
            subst z
            rcases g5 with ⟨j, pp', ds', q1, q2⟩ | g5
            · exact no j pp' ds' q1 q2
            · have g5' : H3 a = none := g5
              rw [hD3] at g5'; cases g5'
        · cases z : F8 Da with
          | none => rfl
          | some o' =>
            rcases R8.new Da (by rw [z]; exact fun z => nomatch z) with q | q | ⟨⟨k, pp, ds, q1, q2⟩, _⟩
            · exact absurd hF3 q
            rotate_left
            · exact absurd q2 (no k pp ds q1)
            · have q' : H3 Da = none := q
              rw [hD3] at q'; cases q'
      cases b with
      | false =>
        rw [if_neg Bool.false_ne_true] at hf
        show (if false = true then _ else Pv (i + 1) H5)
        rw [if_neg Bool.false_ne_true]
        injection hf with f1 f2
        subst f1 f2
        obtain ⟨a1, a2, a3, a4, a5⟩ := fin R5 s5
        exact ⟨F5, e4, acc, as, ys7, (s'.trans s3).trans s5, a1, a2, a3, a4, a5, da.mono (s3.trans s5), hgo7, by rw [← hz, hzs]⟩
      | true =>
        rw [if_pos rfl] at hf
        show (if true = true then tE K xo mg G Γ W0 x σ2 H5 (fun y H4 => ∃ acc, H4 Da = some (.lst acc) ∧ acc.length < sizeLine ∧ Pv (i + 1) (upd H4 Da (.lst (acc ++ [y])))) else _)
        rw [if_pos rfl]
        obtain ⟨yv, e5, hE, hf⟩ := bind_ok hf
        injection hf with f1 f2
        subst f1 f2
        refine ⟨_, _, _, R5, ?_⟩
        rw [hE]
        have step : ∀ (v : V) (H8 F8 : Hp), Rel K xo (B.now F3 H3 (wipe σ vs) (wipeE e' vs)) F8 σ2 H8 e5 → Same F5 F8 → Den K xo F8 v yv.fz → ∃ acc, H8 Da = some (.lst acc) ∧ acc.length < sizeLine ∧ Pv (i + 1) (upd H8 Da (.lst (acc ++ [v]))) := fun v H8 F8 R8 s8 dv => by
          obtain ⟨a1, a2, a3, a4, a5⟩ := fin R8 (s5.trans s8)
          have hzs' : zs = yv.fz :: ys7 := hzs
          refine ⟨acc, a4, ?_, F8, e5, acc ++ [v], as ++ [yv.fz], ys7, ((s'.trans s3).trans s5).trans s8, a1.writeFree a5 h0 a3 (tabs_lst a4 a1.tabs.t), a2, a3, upd_same, a5, (da.mono ((s3.trans s5).trans s8)).append (.cons dv .nil), hgo7, by rw [← hz, hzs']; simp⟩
          have : acc.length < lim := by
            rw [da.length]
            have : as.length + (yv.fz :: ys7).length ≤ lim := by rw [← List.length_append, ← hzs', hz]; exact hly
            simp at this
            omega
          exact lim_lt this
        cases yv with
        | d dd => exact fun v H8 F8 R8 s8 dv => step v H8 F8 R8 s8 dv
        | fr ds => exact fun p us H8 F8 R8 s8 hp8 hF8 da8 h08 ho8 => step (.ref p) H8 (upd F8 p (.lst us)) (R8.freeze hF8 hp8 h08 ho8) (s8.trans (same_upd hF8)) (.lst upd_same (da8.mono (same_upd hF8)))
end
end DL


set_option Elab.async false
set_option linter.all false
set_option maxRecDepth 100000
set_option maxHeartbeats 2000000
/-! DL15: each term's reading, by the library's readings. -/
namespace DL
open PySem PySem.Spec PyProof.Rows L2

section
variable {K : PySem.W.Frag} {xo : XO} {mg : Str → Option Value} {G : List D} {Γ : List Fn} {W : WX} {B : FB} {σ : L2.St} {F F1 H : Hp} {e : Env} {Q : VK} {α β : Type}
theorem set_self {l : List α} {i : Nat} {x : α} (h : l[i]? = some x) : l.set i x = l := by
  apply List.ext_getElem?
  intro j
  by_cases z : i = j
  · subst z
    rw [List.getElem?_set_self (List.getElem?_eq_some_iff.mp h).1, h]
  · rw [List.getElem?_set_ne z]
/-- a list of one's own, given out of its slot -/
theorem Rel.take (r : Rel K xo B F σ H e) {i : Nat} {ds : List D} (q : e[i]? = some (.own false ds)) : ∃ (a : Addr) (vs : List V), σ[i]? = some (some (.ref a)) ∧ H a = some (.lst vs) ∧ F a = none ∧ DenAll K xo F vs ds ∧ B.mine a ∧
    Rel K xo B F σ H (e.set i .un) ∧ ∀ (j : Nat) pp es, (e.set i .un)[j]? = some (.own pp es) → σ[j]? ≠ some (some (.ref a)) := by
  obtain ⟨a, vs, g1, g2, g3, g4, g5, g6⟩ := r.own i false ds q
  refine ⟨a, vs, g1, g2, g3, g4, ?_, r.forget i, fun j pp es h1 h2 => ?_⟩
  · rcases g5 with g5 | g5
    · exact .inr ⟨g5, fun z => nomatch g6.mpr z⟩
    · exact .inl g5
  · rcases getSet h1 with ⟨_, z⟩ | ⟨z, h1⟩
    · cases z
    · exact z (r.sep i j a _ _ _ _ q h1 g1 h2)
/-- .. frozen in its slot -/
theorem Rel.frz (r : Rel K xo B F σ H e) {i : Nat} {ds : List D} (q : e[i]? = some (.own false ds)) : ∃ (a : Addr) (F' : Hp), σ[i]? = some (some (.ref a)) ∧ Same F F' ∧ Den K xo F' (.ref a) (.list ds) ∧ Rel K xo B F' σ H (e.set i (.val (.list ds))) := by
  obtain ⟨a, vs, g1, g2, g3, g4, g5, r1, g6⟩ := r.take q
  have s := same_upd (o := HO.lst vs) g3
  have dn : Den K xo (upd F a (.lst vs)) (.ref a) (.list ds) := .lst upd_same (g4.mono s)
  have r2 := (r1.freeze g3 g2 g5 g6).setVal (i := i) dn
  rw [set_self g1, List.set_set] at r2
  exact ⟨a, _, g1, s, dn, r2⟩
/-- all lists of one's own frozen for a look, and given back -/
theorem Rel.pk (r : Rel K xo B F σ H e) : ∃ (B' : FB) (F' : Hp), Rel K xo B' F' σ H (e.map Slot.fz) ∧ ∀ (F2 H' : Hp) (e1 : Env), Rel K xo B' F2 σ H' e1 → Rel K xo B F σ H' e := by
  classical
  let P : Addr → Prop := fun a => ∃ (i : Nat) (p : Bool) (ds : List D), e[i]? = some (.own p ds) ∧ σ[i]? = some (some (.ref a))
  let F' : Hp := fun a => if P a then H a else F a
  have hP : ∀ a, P a → F' a = H a := fun a h => if_pos h
  have hF : Same F F' := fun a o q => by
    by_cases z : P a
    · show (if P a then H a else F a) = some o
      rw [if_pos z]; exact r.sub a o q
    · show (if P a then H a else F a) = some o
      rw [if_neg z]; exact q
  have hH : Same F' H := fun a o q => by
    have q : (if P a then H a else F a) = some o := q
    by_cases z : P a
    · rw [if_pos z] at q; exact q
    · rw [if_neg z] at q; exact r.sub a o q
  have hN : ∀ a ps, F' a ≠ some (.tbl ps) := fun a ps q => by
    have q : (if P a then H a else F a) = some (.tbl ps) := q
    by_cases z : P a
    · rw [if_pos z] at q
      obtain ⟨i, p, ds, g1, g2⟩ := z
      obtain ⟨a', vs, k1, k2, _⟩ := r.own i p ds g1
      rw [k1] at g2
      injection g2 with g2
      injection g2 with g2
      injection g2 with g2
      rw [← g2, k2] at q
      cases q
    · rw [if_neg z] at q; exact r.tabs.nt a ps q
  refine ⟨⟨H, F', fun _ => False, none⟩, F', ⟨hH, Same.refl _, fun a q => .inl q, (fun a q => nomatch q), fun a o q _ _ => q, fun a ps q => ⟨ps, q⟩, ⟨r.tabs.t, hN⟩, fun a q => False.elim q, by rw [List.length_map]; exact r.len, fun i d q => ?_, fun i p ds q => ?_, fun i j a p q ds es h1 => ?_⟩, fun F2 H' e1 r1 => ?_⟩
  · rw [List.getElem?_map] at q
    cases z : e[i]? with
    | none => rw [z] at q; cases q
    | some s =>
      rw [z] at q
      cases s with
      | un => cases q
      | val x =>
        have q := Slot.val.inj (Option.some.inj (show some (Slot.val x) = some (.val d) from q))
        subst q
        obtain ⟨v, g1, g2⟩ := r.val i x z
        exact ⟨v, g1, g2.mono hF⟩
      | own p xs =>
        have q := Slot.val.inj (Option.some.inj (show some (Slot.val (.list xs)) = some (.val d) from q))
        subst q
        obtain ⟨a, vs, g1, g2, g3, g4, _⟩ := r.own i p xs z
        refine ⟨.ref a, g1, .lst ?_ (g4.mono hF)⟩
        rw [hP a ⟨i, p, xs, z, g1⟩]
        exact g2
  · rw [List.getElem?_map] at q
    cases z : e[i]? with
    | none => rw [z] at q; cases q
    | some s => rw [z] at q; cases s <;> cases q
  · rw [List.getElem?_map] at h1
    cases z : e[i]? with
    | none => rw [z] at h1; cases h1
    | some s => rw [z] at h1; cases s <;> cases h1
  · have k : ∀ a o, H a = some o → (∀ ps, o ≠ .tbl ps) → H' a = some o := fun a o q t => r1.keep a o q (fun z => z) t
    have k2 : ∀ a o, F a = some o → H' a = some o := fun a o q => r1.sub a o (r1.sub0 a o (hF a o q))
    refine ⟨k2, r.sub0, r.new, r.hpa, fun a o q z t => k a o (r.keep a o q z t) t, fun a ps q => ?_, ⟨r1.tabs.t, r.tabs.nt⟩, fun a z => ?_, r.len, r.val, fun i p ds q => ?_, r.sep⟩
    · obtain ⟨ps', e⟩ := r.tbk a ps q
      exact r1.tbk a ps' e
    · cases q : H a with
      | none => exact absurd q (r.ob a z)
      | some o =>
        by_cases t : ∃ ps, o = .tbl ps
        · obtain ⟨ps, rfl⟩ := t
          obtain ⟨ps', e⟩ := r1.tbk a ps q
          rw [e]; exact fun w => nomatch w
        · rw [k a o q (fun ps e => t ⟨ps, e⟩)]; exact fun w => nomatch w
    · obtain ⟨a, vs, g1, g2, g3⟩ := r.own i p ds q
      exact ⟨a, vs, g1, k a _ g2 (fun ps e => nomatch e), g3⟩
/-- flat data stands at its value anywhere -/
theorem den_flat {F1 F2 : Hp} {v : V} {d : D} (h : Den K xo F1 v d) (hf : flat d = true) : Den K xo F2 v d := by
  cases h <;> first | exact .non | exact .bl _ | exact .int _ | exact .str _ | cases hf
theorem sem_peek {a : Ex} (h : tE K xo mg G Γ W (.peek a) σ H Q) : tE K xo mg G Γ W a σ H Q := by
  obtain ⟨B, F, e, r, h⟩ := h
  have h : PostE K xo mg W B σ F (match evE G Γ a (e.map Slot.fz) with
    | .ok x _ => if flat x.fz then R.ok (.d x.fz) e else .bad
    | .exn c [] _ => .exn c [] e
    | _ => .bad) Q := h
  obtain ⟨B', F', r1, bk⟩ := r.pk
  refine ⟨B', F', _, r1, ?_⟩
  cases q : evE G Γ a (e.map Slot.fz) with
  | bad => rw [q] at h; exact h
  | exn c ps e1 =>
    rw [q] at h
    cases ps with
    | cons _ _ => exact h.elim
    | nil => exact fun cls dx H' F2 r2 s2 x => h cls dx H' F (bk F2 H' e1 r2) (Same.refl _) x
  | ok x e1 =>
    rw [q] at h
    cases x with
    | fr xs => exact h.elim
    | d x =>
      have h : PostE K xo mg W B σ F (if flat x then R.ok (.d x) e else .bad) Q := h
      by_cases hf : flat x = true
      · rw [if_pos hf] at h
        exact fun v H' F2 r2 s2 dv => h v H' F (bk F2 H' e1 r2) (Same.refl _) (den_flat dv hf)
      · rw [if_neg hf] at h
        exact h.elim
theorem sem_peekT {a : Ex} {Q : Bool → Hp → Prop} (h : tT K xo mg G Γ W (.peek a) σ H Q) : tT K xo mg G Γ W a σ H Q := by
  obtain ⟨B, F, e, r, h⟩ := h
  have h : PostX K xo mg W B σ F ((match evE G Γ a (e.map Slot.fz) with
    | .ok x _ => if flat x.fz then R.ok (DV.d x.fz) e else .bad
    | .exn c [] _ => .exn c [] e
    | _ => .bad).bind fun x e1 => toR (tru x.fz) e1) (fun i _ _ H1 => Q i H1) := h
  obtain ⟨B', F', r1, bk⟩ := r.pk
  refine ⟨B', F', _, r1, ?_⟩
  show PostX K xo mg W B' σ F' ((evE G Γ a (e.map Slot.fz)).bind fun x e1 => toR (tru x.fz) e1) (fun i _ _ H1 => Q i H1)
  cases q : evE G Γ a (e.map Slot.fz) with
  | bad => rw [q] at h; exact h
  | exn c ps e1 =>
    rw [q] at h
    cases ps with
    | cons _ _ => exact h.elim
    | nil => exact fun cls dx H' F2 r2 s2 x => h cls dx H' F (bk F2 H' e1 r2) (Same.refl _) x
  | ok x e1 =>
    rw [q] at h
    have h : PostX K xo mg W B σ F ((if flat x.fz then R.ok (DV.d x.fz) e else .bad).bind fun x e1 => toR (tru x.fz) e1) (fun i _ _ H1 => Q i H1) := h
    by_cases hf : flat x.fz = true
    · rw [if_pos hf] at h
      have h : PostX K xo mg W B σ F (toR (tru x.fz) e) (fun i _ _ H1 => Q i H1) := h
      show PostX K xo mg W B' σ F' (toR (tru x.fz) e1) (fun i _ _ H1 => Q i H1)
      cases z : tru x.fz with
      | none => rw [z] at h; exact h.elim
      | some b =>
        rw [z] at h
        exact fun H' F2 r2 s2 => h H' F (bk F2 H' e1 r2) (Same.refl _)
    · rw [if_neg hf] at h
      exact h.elim
theorem sem_olst {i : Nat} (h : tE K xo mg G Γ W (.olst i) σ H Q) : tCB (fun xs H Q => ∃ p ys, xs = [V.ref p] ∧ (SqL K H p ys ∨ SqT K H p ys) ∧ ∀ l, H l = none → Q (.ref l) (upd H l (.lst ys))) (tCons (tVar i) tNil) σ H Q := by
  obtain ⟨B, F, e, r, h⟩ := h
  have h : PostE K xo mg W B σ F (match e[i]? with
    | some (.own _ xs) => R.ok (DV.fr xs) e
    | _ => R.bad) Q := h
  cases q : e[i]? with
  | none => rw [q] at h; exact h.elim
  | some s =>
    rw [q] at h
    cases s with
    | un => exact h.elim
    | val _ => exact h.elim
    | own p xs =>
      obtain ⟨a, vs, g1, g2, g3, g4, _⟩ := r.own i p xs q
      exact ⟨.ref a, g1, a, vs, rfl, .inl (.inl (.inl g2)), post_lst r h g4⟩
theorem toR_E {o : Option DV} (h : PostE K xo mg W B σ F (toR o e) Q) : ∃ a, o = some a ∧ PostE K xo mg W B σ F (.ok a e) Q := by
  cases o with
  | none => exact h.elim
  | some a => exact ⟨a, rfl, h⟩
theorem toR_X {o : Option α} {Q : α → Env → Hp → Hp → Prop} (h : PostX K xo mg W B σ F (toR o e) Q) : ∃ a, o = some a ∧ PostX K xo mg W B σ F (.ok a e) Q := by
  cases o with
  | none => exact h.elim
  | some a => exact ⟨a, rfl, h⟩
theorem tE_mono {a : Ex} {T T' : VK} (h : tE K xo mg G Γ W a σ H T) (q : ∀ v H, T v H → T' v H) : tE K xo mg G Γ W a σ H T' := by
  obtain ⟨B, F, e, r, h⟩ := h
  exact ⟨B, F, e, r, PostE.imp h q⟩
/-- a test by its value's truth -/
theorem sem_truth {a : Ex} {Q : Bool → Hp → Prop} (h : tT K xo mg G Γ W a σ H Q) : tE K xo mg G Γ W a σ H fun v H' => ∃ k, TruV K v H' k ∧ Q k H' := by
  obtain ⟨B, F, e, r, h⟩ := h
  refine tE_bindX (f := fun x e1 => toR (tru x.fz) e1) r h (fun x y e q => by rw [q]) fun x e1 v H1 F1 r1 s1 dv hp => ?_
  obtain ⟨b, eb, hp⟩ := toR_X hp
  exact ⟨b, den_tru (r1.den dv) eb, hp H1 F1 r1 (Same.refl _)⟩
theorem sem_lit {c : D} {v : V} (h : tE K xo mg G Γ W (.lit c) σ H Q) (d : ∀ F, Den K xo F v c) : Q v H := by
  obtain ⟨B, F, e, r, h⟩ := h
  exact post_val r h (d F)
theorem sem_v {i : Nat} (h : tE K xo mg G Γ W (.v i) σ H Q) : tVar i σ H Q := by
  obtain ⟨B, F, e, r, h⟩ := h
  have h : PostE K xo mg W B σ F (match e[i]? with
    | some (.val x) => R.ok (DV.d x) e
    | _ => R.bad) Q := h
  cases q : e[i]? with
  | none => rw [q] at h; exact h.elim
  | some s =>
    rw [q] at h
    cases s with
    | un => exact h.elim
    | own _ _ => exact h.elim
    | val x =>
      obtain ⟨v, g1, g2⟩ := r.val i x q
      exact ⟨v, g1, post_val r h g2⟩
theorem sem_frz {i : Nat} (h : tE K xo mg G Γ W (.frz i) σ H Q) : tVar i σ H Q := by
  obtain ⟨B, F, e, r, h⟩ := h
  have h : PostE K xo mg W B σ F (match e[i]? with
    | some (.own false xs) => R.ok (DV.d (.list xs)) (e.set i (.val (.list xs)))
    | _ => R.bad) Q := h
  cases q : e[i]? with
  | none => rw [q] at h; exact h.elim
  | some s =>
    rw [q] at h
    cases s with
    | un => exact h.elim
    | val _ => exact h.elim
    | own p xs =>
      cases p with
      | true => exact h.elim
      | false =>
        obtain ⟨a, F', g1, g2, g3, g4⟩ := r.frz q
        exact ⟨.ref a, g1, h _ _ _ g4 g2 g3⟩
theorem sem_tk {i : Nat} (h : tE K xo mg G Γ W (.tk i) σ H Q) : tVar i σ H Q := by
  obtain ⟨B, F, e, r, h⟩ := h
  have h : PostE K xo mg W B σ F (match e[i]? with
    | some (.own false xs) => .ok (.fr xs) (e.set i .un)
    | _ => R.bad) Q := h
  cases q : e[i]? with
  | none => rw [q] at h; exact h.elim
  | some s =>
    rw [q] at h
    cases s with
    | un => exact h.elim
    | val _ => exact h.elim
    | own p xs =>
      cases p with
      | true => exact h.elim
      | false =>
        obtain ⟨a, vs, g1, g2, g3, g4, g5, g6, g7⟩ := r.take q
        exact ⟨.ref a, g1, h a vs H F g6 (Same.refl _) g2 g3 g4 g5 g7⟩
theorem sem_bin {o : Bop} {a b : Ex} (h : tE K xo mg G Γ W (.bin o a b) σ H Q) : tOp (rBin K xo mg W o) (tE K xo mg G Γ W a) (tE K xo mg G Γ W b) σ H Q := by
  obtain ⟨B, F, e, r, h⟩ := h
  have h : PostE K xo mg W B σ F ((evE G Γ a e).bind fun x e1 => (evE G Γ b e1).bind fun y e2 => toR (bin o x.fz y.fz) e2) Q := h
  refine tE_bind r h (fun x y e q => by rw [q]) fun x e1 v H1 F1 r1 s1 dv hp => ?_
  refine tE_bind r1 hp (fun x y e q => by rw [q]) fun y e2 u H2 F2 r2 s2 du hp => ?_
  obtain ⟨dd, ed, hp⟩ := toR_E hp
  exact ⟨B, F2, σ, e2, x, y, dd, r2, dv.mono s2, du, ed, hp⟩
theorem sem_neg {a : Ex} (h : tE K xo mg G Γ W (.neg a) σ H Q) : tUn (rU fun i => .int (-i)) (tE K xo mg G Γ W a) σ H Q := by
  obtain ⟨B, F, e, r, h⟩ := h
  have h : PostE K xo mg W B σ F ((evE G Γ a e).bind fun x e1 => match x.fz with
    | .int i => R.ok (DV.d (.int (-i))) e1
    | _ => R.bad) Q := h
  refine tE_bind r h (fun x y e q => by rw [q]) fun x e1 v H1 F1 r1 s1 dv hp => ?_
  cases x with
  | int i =>
    cases dv
    exact ⟨i, rfl, post_val r1 hp (.int _)⟩
  | none => exact hp.elim
  | bool _ => exact hp.elim
  | str _ => exact hp.elim
  | list _ => exact hp.elim
  | tuple _ => exact hp.elim
  | dict _ => exact hp.elim
theorem sem_no {a : Ex} (h : tE K xo mg G Γ W (.no a) σ H Q) : tNotT K (tE K xo mg G Γ W a) σ H Q := by
  obtain ⟨B, F, e, r, h⟩ := h
  have h : PostE K xo mg W B σ F ((evE G Γ a e).bind fun x e1 => match tru x.fz with
    | some b => R.ok (DV.d (.bool (!b))) e1
    | none => R.bad) Q := h
  refine tE_bind r h (fun x y e q => by rw [q]) fun x e1 v H1 F1 r1 s1 dv hp => ?_
  have hp : PostE K xo mg W B σ F1 (match tru x with
    | some b => R.ok (DV.d (.bool (!b))) e1
    | none => R.bad) Q := hp
  cases et : tru x with
  | none => rw [et] at hp; exact hp.elim
  | some b =>
    rw [et] at hp
    exact ⟨b, den_tru (r1.den dv) et, post_val r1 hp (.bl _)⟩
theorem sem_noT {a : Ex} {Q : Bool → Hp → Prop} (h : tT K xo mg G Γ W (.no a) σ H Q) : tNot (tT K xo mg G Γ W a) σ H Q := by
  obtain ⟨B, F, e, r, h⟩ := h
  have h : PostX K xo mg W B σ F (((evE G Γ a e).bind fun x e1 => match tru x.fz with
    | some b => R.ok (DV.d (.bool (!b))) e1
    | none => R.bad).bind fun x e1 => toR (tru x.fz) e1) (fun i _ _ H1 => Q i H1) := h
  refine ⟨B, F, e, r, ?_⟩
  show PostX K xo mg W B σ F ((evE G Γ a e).bind fun x e1 => toR (tru x.fz) e1) _
  cases q : evE G Γ a e with
  | bad => rw [q] at h; exact h
  | exn c ps e => rw [q] at h; exact h
  | ok x e1 =>
    rw [q] at h
    show PostX K xo mg W B σ F (toR (tru x.fz) e1) _
    have h : PostX K xo mg W B σ F ((match tru x.fz with
      | some b => R.ok (DV.d (.bool (!b))) e1
      | none => R.bad).bind fun x e1 => toR (tru x.fz) e1) (fun i _ _ H1 => Q i H1) := h
    cases et : tru x.fz with
    | none => rw [et] at h; exact h
    | some b => rw [et] at h; exact h
theorem sem_cmp {o : Cop} {a b : Ex} (h : tE K xo mg G Γ W (.cmp o a b) σ H Q) : tOp (rCmp K xo o) (tE K xo mg G Γ W a) (tE K xo mg G Γ W b) σ H Q := by
  obtain ⟨B, F, e, r, h⟩ := h
  have h : PostE K xo mg W B σ F ((evE G Γ a e).bind fun x e1 => (evE G Γ b e1).bind fun y e2 => toR ((cmp o x.fz y.fz).map fun b => .d (.bool b)) e2) Q := h
  refine tE_bind r h (fun x y e q => by rw [q]) fun x e1 v H1 F1 r1 s1 dv hp => ?_
  refine tE_bind r1 hp (fun x y e q => by rw [q]) fun y e2 u H2 F2 r2 s2 du hp => ?_
  obtain ⟨dd, ed, hp⟩ := toR_E hp
  have ed : (cmp o x y).map (fun b => DV.d (.bool b)) = some dd := ed
  cases ec : cmp o x y with
  | none => rw [ec] at ed; cases ed
  | some k =>
    rw [ec] at ed
    have ed' := Option.some.inj ed
    subst ed'
    exact ⟨F2, x, y, k, r2.sub, dv.mono s2, du, ec, post_val r2 hp (.bl _)⟩
theorem rCmp_mono {o : Cop} {x y : V} {Q Q' : VK} (h : rCmp K xo o x y H Q) (q : ∀ b, Q (.bl b) H → Q' (.bl b) H) : rCmp K xo o x y H Q' := by
  obtain ⟨F, dx, dy, b, g1, g2, g3, g4, g5⟩ := h
  exact ⟨F, dx, dy, b, g1, g2, g3, g4, q b g5⟩
theorem sem_cmpT {o : Cop} {a b : Ex} {Q : Bool → Hp → Prop} (h : tT K xo mg G Γ W (.cmp o a b) σ H Q) : tTest (tOp (rCmp K xo o) (tE K xo mg G Γ W a) (tE K xo mg G Γ W b)) σ H Q :=
  tE_mono (sem_cmp (sem_truth h)) fun x H1 h1 => tE_mono h1 fun y H2 h2 => rCmp_mono h2 fun b ⟨k, e, q⟩ => ⟨b, rfl, by have e' : k = b := e; rw [← e']; exact q⟩
theorem sem_chn {o p : Cop} {a b c : Ex} (h : tE K xo mg G Γ W (.chn o p a b c) σ H Q) : tChain (rCmp K xo o) (rCmp K xo p) (tE K xo mg G Γ W a) (tE K xo mg G Γ W b) (tE K xo mg G Γ W c) σ H Q := by
  obtain ⟨B, F, e, r, h⟩ := h
  have h : PostE K xo mg W B σ F ((evE G Γ a e).bind fun x e1 => (evE G Γ b e1).bind fun y e2 => match cmp o x.fz y.fz with
    | some true => (evE G Γ c e2).bind fun z e3 => toR ((cmp p y.fz z.fz).map fun b => .d (.bool b)) e3
    | some false => R.ok (DV.d (.bool false)) e2
    | none => R.bad) Q := h
  refine tE_bind r h (fun x y e q => by rw [q]) fun x e1 v H1 F1 r1 s1 dv hp => ?_
  refine tE_bind r1 hp (fun x y e q => by rw [q]) fun y e2 u H2 F2 r2 s2 du hp => ?_
  have hp : PostE K xo mg W B σ F2 (match cmp o x y with
    | some true => (evE G Γ c e2).bind fun z e3 => toR ((cmp p y z.fz).map fun b => .d (.bool b)) e3
    | some false => R.ok (DV.d (.bool false)) e2
    | none => R.bad) Q := hp
  cases ec : cmp o x y with
  | none => rw [ec] at hp; exact hp.elim
  | some k =>
    rw [ec] at hp
    refine ⟨F2, x, y, k, r2.sub, dv.mono s2, du, ec, k, rfl, ?_⟩
    cases k with
    | false =>
      rw [if_neg Bool.false_ne_true]
      exact post_val r2 hp (.bl _)
    | true =>
      rw [if_pos rfl]
      refine tE_bind r2 hp (fun x y e q => by rw [q]) fun z e3 w H3 F3 r3 s3 dw hp => ?_
      obtain ⟨dd, ed, hp⟩ := toR_E hp
      have ed : (cmp p y z).map (fun b => DV.d (.bool b)) = some dd := ed
      cases ec2 : cmp p y z with
      | none => rw [ec2] at ed; cases ed
      | some k2 =>
        rw [ec2] at ed
        have ed' := Option.some.inj ed
        subst ed'
        exact ⟨F3, y, z, k2, r3.sub, du.mono s3, dw, ec2, post_val r3 hp (.bl _)⟩
theorem chain_mono {o p : Cop} {a b c : Ex} {Q Q' : VK} (h : tChain (rCmp K xo o) (rCmp K xo p) (tE K xo mg G Γ W a) (tE K xo mg G Γ W b) (tE K xo mg G Γ W c) σ H Q) (q : ∀ b H, Q (.bl b) H → Q' (.bl b) H) :
    tChain (rCmp K xo o) (rCmp K xo p) (tE K xo mg G Γ W a) (tE K xo mg G Γ W b) (tE K xo mg G Γ W c) σ H Q' :=
  tE_mono h fun x H1 h1 => tE_mono h1 fun y H2 h2 => rCmp_mono h2 fun b ⟨k, e, z⟩ => ⟨k, e, by
    cases k with
    | false =>
      rw [if_neg Bool.false_ne_true] at z ⊢
      exact q _ _ z
    | true =>
      rw [if_pos rfl] at z ⊢
      exact tE_mono z fun w H3 h3 => rCmp_mono h3 fun b z => q _ _ z⟩
theorem sem_chnT {o p : Cop} {a b c : Ex} {Q : Bool → Hp → Prop} (h : tT K xo mg G Γ W (.chn o p a b c) σ H Q) : tTest (tChain (rCmp K xo o) (rCmp K xo p) (tE K xo mg G Γ W a) (tE K xo mg G Γ W b) (tE K xo mg G Γ W c)) σ H Q :=
  chain_mono (sem_chn (sem_truth h)) fun b H2 ⟨k, e, q⟩ => ⟨b, rfl, by have e' : k = b := e; rw [← e']; exact q⟩
theorem sem_fz {a : Ex} (r : Rel K xo B F σ H e) (h : PostE K xo mg W B σ F ((evE G Γ a e).bind fun y e2 => R.ok (DV.d y.fz) e2) Q) : tE K xo mg G Γ W a σ H Q :=
  tE_bind r h (fun x y e q => by rw [q]) fun x e1 v H1 F1 r1 s1 dv hp => post_val r1 hp dv
theorem evT_fz {a : Ex} : ((evE G Γ a e).bind fun y e2 => R.ok (DV.d y.fz) e2).bind (fun x e1 => toR (tru x.fz) e1) = evT G Γ a e := by
  show _ = (evE G Γ a e).bind fun x e1 => toR (tru x.fz) e1
  cases evE G Γ a e <;> rfl
theorem sem_and {a b : Ex} (h : tE K xo mg G Γ W (.and a b) σ H Q) : tAndT K (tE K xo mg G Γ W a) (tE K xo mg G Γ W b) σ H Q := by
  obtain ⟨B, F, e, r, h⟩ := h
  have h : PostE K xo mg W B σ F ((evE G Γ a e).bind fun x e1 => match tru x.fz with
    | some true => (evE G Γ b e1).bind fun y e2 => R.ok (DV.d y.fz) e2
    | some false => R.ok (DV.d x.fz) e1
    | none => R.bad) Q := h
  refine tE_bind r h (fun x y e q => by rw [q]) fun x e1 v H1 F1 r1 s1 dv hp => ?_
  have hp : PostE K xo mg W B σ F1 (match tru x with
    | some true => (evE G Γ b e1).bind fun y e2 => R.ok (DV.d y.fz) e2
    | some false => R.ok (DV.d x) e1
    | none => R.bad) Q := hp
  cases et : tru x with
  | none => rw [et] at hp; exact hp.elim
  | some k =>
    rw [et] at hp
    refine ⟨k, den_tru (r1.den dv) et, ?_⟩
    cases k with
    | true => rw [if_pos rfl]; exact sem_fz r1 hp
    | false => rw [if_neg Bool.false_ne_true]; exact post_val r1 hp dv
theorem sem_or {a b : Ex} (h : tE K xo mg G Γ W (.or a b) σ H Q) : tOrT K (tE K xo mg G Γ W a) (tE K xo mg G Γ W b) σ H Q := by
  obtain ⟨B, F, e, r, h⟩ := h
  have h : PostE K xo mg W B σ F ((evE G Γ a e).bind fun x e1 => match tru x.fz with
    | some false => (evE G Γ b e1).bind fun y e2 => R.ok (DV.d y.fz) e2
    | some true => R.ok (DV.d x.fz) e1
    | none => R.bad) Q := h
  refine tE_bind r h (fun x y e q => by rw [q]) fun x e1 v H1 F1 r1 s1 dv hp => ?_
  have hp : PostE K xo mg W B σ F1 (match tru x with
    | some false => (evE G Γ b e1).bind fun y e2 => R.ok (DV.d y.fz) e2
    | some true => R.ok (DV.d x) e1
    | none => R.bad) Q := hp
  cases et : tru x with
  | none => rw [et] at hp; exact hp.elim
  | some k =>
    rw [et] at hp
    refine ⟨k, den_tru (r1.den dv) et, ?_⟩
    cases k with
    | true => rw [if_pos rfl]; exact post_val r1 hp dv
    | false => rw [if_neg Bool.false_ne_true]; exact sem_fz r1 hp
theorem tru_fz (x : DV) : tru (DV.d x.fz).fz = tru x.fz := rfl
theorem sem_andT {a b : Ex} {Q : Bool → Hp → Prop} (h : tT K xo mg G Γ W (.and a b) σ H Q) : tAnd (tT K xo mg G Γ W a) (tT K xo mg G Γ W b) σ H Q := by
  obtain ⟨B, F, e, r, h⟩ := h
  have h : PostX K xo mg W B σ F (((evE G Γ a e).bind fun x e1 => match tru x.fz with
    | some true => (evE G Γ b e1).bind fun y e2 => R.ok (DV.d y.fz) e2
    | some false => R.ok (DV.d x.fz) e1
    | none => R.bad).bind fun x e1 => toR (tru x.fz) e1) (fun i _ _ H1 => Q i H1) := h
  refine ⟨B, F, e, r, ?_⟩
  show PostX K xo mg W B σ F ((evE G Γ a e).bind fun x e1 => toR (tru x.fz) e1) _
  cases q : evE G Γ a e with
  | bad => rw [q] at h; exact h
  | exn c ps e => rw [q] at h; exact h
  | ok x e1 =>
    rw [q] at h
    have h : PostX K xo mg W B σ F ((match tru x.fz with
      | some true => (evE G Γ b e1).bind fun y e2 => R.ok (DV.d y.fz) e2
      | some false => R.ok (DV.d x.fz) e1
      | none => R.bad).bind fun x e1 => toR (tru x.fz) e1) (fun i _ _ H1 => Q i H1) := h
    show PostX K xo mg W B σ F (toR (tru x.fz) e1) _
    cases et : tru x.fz with
    | none => rw [et] at h; exact h
    | some k =>
      rw [et] at h
      cases k with
      | true =>
        have h : PostX K xo mg W B σ F (((evE G Γ b e1).bind fun y e2 => R.ok (DV.d y.fz) e2).bind (fun x e1 => toR (tru x.fz) e1)) (fun i _ _ H1 => Q i H1) := h
        rw [evT_fz] at h
        exact fun H' F' r1 s1 => ⟨B, F', e1, r1, PostX.sub h s1⟩
      | false =>
        have h : PostX K xo mg W B σ F (toR (tru x.fz) e1) (fun i _ _ H1 => Q i H1) := h
        rw [et] at h
        exact h
theorem sem_orT {a b : Ex} {Q : Bool → Hp → Prop} (h : tT K xo mg G Γ W (.or a b) σ H Q) : tOr (tT K xo mg G Γ W a) (tT K xo mg G Γ W b) σ H Q := by
  obtain ⟨B, F, e, r, h⟩ := h
  have h : PostX K xo mg W B σ F (((evE G Γ a e).bind fun x e1 => match tru x.fz with
    | some false => (evE G Γ b e1).bind fun y e2 => R.ok (DV.d y.fz) e2
    | some true => R.ok (DV.d x.fz) e1
    | none => R.bad).bind fun x e1 => toR (tru x.fz) e1) (fun i _ _ H1 => Q i H1) := h
  refine ⟨B, F, e, r, ?_⟩
  show PostX K xo mg W B σ F ((evE G Γ a e).bind fun x e1 => toR (tru x.fz) e1) _
  cases q : evE G Γ a e with
  | bad => rw [q] at h; exact h
  | exn c ps e => rw [q] at h; exact h
  | ok x e1 =>
    rw [q] at h
    have h : PostX K xo mg W B σ F ((match tru x.fz with
      | some false => (evE G Γ b e1).bind fun y e2 => R.ok (DV.d y.fz) e2
      | some true => R.ok (DV.d x.fz) e1
      | none => R.bad).bind fun x e1 => toR (tru x.fz) e1) (fun i _ _ H1 => Q i H1) := h
    show PostX K xo mg W B σ F (toR (tru x.fz) e1) _
    cases et : tru x.fz with
    | none => rw [et] at h; exact h
    | some k =>
      rw [et] at h
      cases k with
      | false =>
        have h : PostX K xo mg W B σ F (((evE G Γ b e1).bind fun y e2 => R.ok (DV.d y.fz) e2).bind (fun x e1 => toR (tru x.fz) e1)) (fun i _ _ H1 => Q i H1) := h
        rw [evT_fz] at h
        exact fun H' F' r1 s1 => ⟨B, F', e1, r1, PostX.sub h s1⟩
      | true =>
        have h : PostX K xo mg W B σ F (toR (tru x.fz) e1) (fun i _ _ H1 => Q i H1) := h
        rw [et] at h
        exact h
theorem sem_ife {c a b : Ex} (h : tE K xo mg G Γ W (.ife c a b) σ H Q) : tIf (tT K xo mg G Γ W c) (tE K xo mg G Γ W a) (tE K xo mg G Γ W b) σ H Q := by
  obtain ⟨B, F, e, r, h⟩ := h
  have h : PostE K xo mg W B σ F ((evE G Γ c e).bind fun x e1 => match tru x.fz with
    | some true => (evE G Γ a e1).bind fun y e2 => R.ok (DV.d y.fz) e2
    | some false => (evE G Γ b e1).bind fun y e2 => R.ok (DV.d y.fz) e2
    | none => R.bad) Q := h
  refine ⟨B, F, e, r, ?_⟩
  show PostX K xo mg W B σ F ((evE G Γ c e).bind fun x e1 => toR (tru x.fz) e1) _
  cases q : evE G Γ c e with
  | bad => rw [q] at h; exact h
  | exn c ps e => rw [q] at h; exact h
  | ok x e1 =>
    rw [q] at h
    have h : PostE K xo mg W B σ F (match tru x.fz with
      | some true => (evE G Γ a e1).bind fun y e2 => R.ok (DV.d y.fz) e2
      | some false => (evE G Γ b e1).bind fun y e2 => R.ok (DV.d y.fz) e2
      | none => R.bad) Q := h
    show PostX K xo mg W B σ F (toR (tru x.fz) e1) _
    cases et : tru x.fz with
    | none => rw [et] at h; exact h
    | some k =>
      rw [et] at h
      cases k with
      | true => exact fun H' F' r1 s1 => sem_fz r1 (PostE.sub h s1)
      | false => exact fun H' F' r1 s1 => sem_fz r1 (PostE.sub h s1)
def tIfT (tc ta tb : TT) : TT := fun σ H Q => tc σ H fun k H1 => if k = true then ta σ H1 Q else tb σ H1 Q
theorem sem_ifeT {c a b : Ex} {Q : Bool → Hp → Prop} (h : tT K xo mg G Γ W (.ife c a b) σ H Q) : tIfT (tT K xo mg G Γ W c) (tT K xo mg G Γ W a) (tT K xo mg G Γ W b) σ H Q := by
  obtain ⟨B, F, e, r, h⟩ := h
  have h : PostX K xo mg W B σ F (((evE G Γ c e).bind fun x e1 => match tru x.fz with
    | some true => (evE G Γ a e1).bind fun y e2 => R.ok (DV.d y.fz) e2
    | some false => (evE G Γ b e1).bind fun y e2 => R.ok (DV.d y.fz) e2
    | none => R.bad).bind fun x e1 => toR (tru x.fz) e1) (fun i _ _ H1 => Q i H1) := h
  refine ⟨B, F, e, r, ?_⟩
  show PostX K xo mg W B σ F ((evE G Γ c e).bind fun x e1 => toR (tru x.fz) e1) _
  cases q : evE G Γ c e with
  | bad => rw [q] at h; exact h
  | exn c ps e => rw [q] at h; exact h
  | ok x e1 =>
    rw [q] at h
    have h : PostX K xo mg W B σ F ((match tru x.fz with
      | some true => (evE G Γ a e1).bind fun y e2 => R.ok (DV.d y.fz) e2
      | some false => (evE G Γ b e1).bind fun y e2 => R.ok (DV.d y.fz) e2
      | none => R.bad).bind fun x e1 => toR (tru x.fz) e1) (fun i _ _ H1 => Q i H1) := h
    show PostX K xo mg W B σ F (toR (tru x.fz) e1) _
    cases et : tru x.fz with
    | none => rw [et] at h; exact h
    | some k =>
      rw [et] at h
      cases k with
      | true =>
        have h : PostX K xo mg W B σ F (((evE G Γ a e1).bind fun y e2 => R.ok (DV.d y.fz) e2).bind (fun x e1 => toR (tru x.fz) e1)) (fun i _ _ H1 => Q i H1) := h
        rw [evT_fz] at h
        exact fun H' F' r1 s1 => ⟨B, F', e1, r1, PostX.sub h s1⟩
      | false =>
        have h : PostX K xo mg W B σ F (((evE G Γ b e1).bind fun y e2 => R.ok (DV.d y.fz) e2).bind (fun x e1 => toR (tru x.fz) e1)) (fun i _ _ H1 => Q i H1) := h
        rw [evT_fz] at h
        exact fun H' F' r1 s1 => ⟨B, F', e1, r1, PostX.sub h s1⟩
theorem sem_tup {es : Exs} (h : tE K xo mg G Γ W (.tup es) σ H Q) : tTup (tEs K xo mg G Γ W es) σ H Q := by
  obtain ⟨B, F, e, r, h⟩ := h
  have h : PostE K xo mg W B σ F ((evEs G Γ es e).bind fun xs e1 => if xs.length ≤ lim then R.ok (DV.d (.tuple xs)) e1 else R.bad) Q := h
  refine ⟨B, F, e, r, PostX.imp (bindXE h) fun xs e1 F1 H1 r1 s1 hp vs dv => ?_⟩
  have hp : PostE K xo mg W B σ F1 (if xs.length ≤ lim then R.ok (DV.d (.tuple xs)) e1 else R.bad) Q := hp
  by_cases hl : xs.length ≤ lim
  · rw [if_pos hl] at hp
    exact ⟨by rw [dv.length]; exact lim_line hl, post_tup r1 hp dv⟩
  · rw [if_neg hl] at hp; exact hp.elim
theorem sem_lst {es : Exs} (h : tE K xo mg G Γ W (.lst es) σ H Q) : tLst (tEs K xo mg G Γ W es) σ H Q := by
  obtain ⟨B, F, e, r, h⟩ := h
  have h : PostE K xo mg W B σ F ((evEs G Γ es e).bind fun xs e1 => if xs.length ≤ lim then .ok (.fr xs) e1 else R.bad) Q := h
  refine ⟨B, F, e, r, PostX.imp (bindXE h) fun xs e1 F1 H1 r1 s1 hp vs dv => ?_⟩
  have hp : PostE K xo mg W B σ F1 (if xs.length ≤ lim then .ok (.fr xs) e1 else R.bad) Q := hp
  by_cases hl : xs.length ≤ lim
  · rw [if_pos hl] at hp
    exact ⟨by rw [dv.length]; exact lim_line hl, post_lst r1 hp dv⟩
  · rw [if_neg hl] at hp; exact hp.elim
theorem den_at {xs : List V} {ds : List D} {i : Int} {d : D} (r : DenAll K xo F xs ds) (h : L2.atI ds i = some d) : ∃ v, L2.atI xs i = some v ∧ Den K xo F v d := by
  unfold L2.atI at h ⊢
  rw [r.length]
  cases q : L2.ixN ds.length i with
  | none => rw [q] at h; cases h
  | some n =>
    rw [q] at h
    exact r.get (i := n) h
theorem den_ix {x y : V} {dx dy d : D} (hx : Den K xo F x dx) (hy : Den K xo F y dy) (h : ix dx dy = some d) : ∃ (p : Addr) (i : Int) (xs : List V) (v : V), x = .ref p ∧ y = .int i ∧ (SqL K F p xs ∨ SqT K F p xs) ∧ L2.atI xs i = some v ∧ Den K xo F v d := by
  cases hy with
  | int i =>
    cases hx with
    | lst hp r =>
      obtain ⟨v, g1, g2⟩ := den_at r (show L2.atI _ i = some d from h)
      exact ⟨_, i, _, v, rfl, rfl, .inl (.inl (.inl hp)), g1, g2⟩
    | tup hp r =>
      obtain ⟨v, g1, g2⟩ := den_at r (show L2.atI _ i = some d from h)
      exact ⟨_, i, _, v, rfl, rfl, .inr hp, g1, g2⟩
    | scr hp r =>
      obtain ⟨v, g1, g2⟩ := den_at r (show L2.atI _ i = some d from h)
      exact ⟨_, i, _, v, rfl, rfl, .inl hp, g1, g2⟩
    | non => cases h
    | bl _ => cases h
    | int _ => cases h
    | str _ => cases h
    | exc0 _ _ => cases h
    | exc1 _ _ _ _ => cases h
    | dic0 _ => cases h
  | non => cases hx <;> cases h
  | bl _ => cases hx <;> cases h
  | str _ => cases hx <;> cases h
  | lst _ _ => cases hx <;> cases h
  | tup _ _ => cases hx <;> cases h
  | scr _ _ => cases hx <;> cases h
  | exc0 _ _ => cases hx <;> cases h
  | exc1 _ _ _ _ => cases hx <;> cases h
  | dic0 _ => cases hx <;> cases h
def rIx2 (K : PySem.W.Frag) : R2 := fun x y H Q => rIxL K x y H Q ∨ rIxT K x y H Q
theorem rix_of {x y v : V} {p : Addr} {i : Int} {xs : List V} (s : Same F H) (hx : x = .ref p) (hy : y = .int i) (h : SqL K F p xs ∨ SqT K F p xs) (ha : L2.atI xs i = some v) (q : Q v H) : rIx2 K x y H Q := by
  rcases h with h | h
  · exact .inl ⟨p, xs, i, v, hx, hy, s.seq h, ha, q⟩
  · exact .inr ⟨p, xs, i, v, hx, hy, sqt_mono s h, ha, q⟩
theorem sem_ix {a b : Ex} (h : tE K xo mg G Γ W (.ix a b) σ H Q) : tOp (rIx2 K) (tE K xo mg G Γ W a) (tE K xo mg G Γ W b) σ H Q := by
  obtain ⟨B, F, e, r, h⟩ := h
  have h : PostE K xo mg W B σ F ((evE G Γ a e).bind fun x e1 => (evE G Γ b e1).bind fun y e2 => toR ((ix x.fz y.fz).map .d) e2) Q := h
  refine tE_bind r h (fun x y e q => by rw [q]) fun x e1 v H1 F1 r1 s1 dv hp => ?_
  refine tE_bind r1 hp (fun x y e q => by rw [q]) fun y e2 u H2 F2 r2 s2 du hp => ?_
  obtain ⟨dd, ed, hp⟩ := toR_E hp
  have ed : (ix x y).map DV.d = some dd := ed
  cases ei : ix x y with
  | none => rw [ei] at ed; cases ed
  | some d =>
    rw [ei] at ed
    have ed' := Option.some.inj ed
    subst ed'
    obtain ⟨p, i, xs, z, g1, g2, g3, g4, g5⟩ := den_ix (dv.mono s2) du ei
    exact rix_of r2.sub g1 g2 g3 g4 (post_val r2 hp g5)
theorem sem_oix {i : Nat} {b : Ex} (h : tE K xo mg G Γ W (.oix i b) σ H Q) : tOp (rIx2 K) (tVar i) (tE K xo mg G Γ W b) σ H Q := by
  obtain ⟨B, F, e, r, h⟩ := h
  have h : PostE K xo mg W B σ F (match e[i]? with
    | some (.own _ _) => (evE G Γ b e).bind fun k e1 => match e1[i]? with
      | some (.own _ xs) => toR ((ix (.list xs) k.fz).map .d) e1
      | _ => R.bad
    | _ => R.bad) Q := h
  cases q : e[i]? with
  | none => rw [q] at h; exact h.elim
  | some s =>
    rw [q] at h
    cases s with
    | un => exact h.elim
    | val _ => exact h.elim
    | own p xs =>
      obtain ⟨a, vs, g1, _⟩ := r.own i p xs q
      refine ⟨.ref a, g1, ?_⟩
      have h : PostE K xo mg W B σ F ((evE G Γ b e).bind fun k e1 => match e1[i]? with
        | some (.own _ xs) => toR ((ix (.list xs) k.fz).map .d) e1
        | _ => R.bad) Q := h
      refine tE_bind r h (fun x y e q => by rw [q]) fun x e1 v H1 F1 r1 s1 dv hp => ?_
      have hp : PostE K xo mg W B σ F1 (match e1[i]? with
        | some (.own _ xs) => toR ((ix (.list xs) x).map .d) e1
        | _ => R.bad) Q := hp
      cases q1 : e1[i]? with
      | none => rw [q1] at hp; exact hp.elim
      | some s1 =>
        rw [q1] at hp
        cases s1 with
        | un => exact hp.elim
        | val _ => exact hp.elim
        | own p1 xs1 =>
          obtain ⟨a1, vs1, k1, k2, k3, k4, _⟩ := r1.own i p1 xs1 q1
          rw [g1] at k1
          injection k1 with k1
          injection k1 with k1
          injection k1 with k1
          subst k1
          obtain ⟨dd, ed, hp⟩ := toR_E hp
          cases dv with
          | int j =>
            have ed : (L2.atI xs1 j).map DV.d = some dd := ed
            cases ei : L2.atI xs1 j with
            | none => rw [ei] at ed; cases ed
            | some d =>
              rw [ei] at ed
              have ed' := Option.some.inj ed
              subst ed'
              obtain ⟨z, z1, z2⟩ := den_at k4 ei
              exact .inl ⟨a, vs1, j, z, rfl, rfl, .inl (.inl k2), z1, post_val r1 hp z2⟩
          | non => cases ed
          | bl _ => cases ed
          | str _ => cases ed
          | lst _ _ => cases ed
          | tup _ _ => cases ed
          | scr _ _ => cases ed
          | exc0 _ _ => cases ed
          | exc1 _ _ _ _ => cases ed
          | dic0 _ => cases ed
theorem sem_dic0 (h : tE K xo mg G Γ W .dic0 σ H Q) : tDNewK σ H Q := by
  obtain ⟨B, F, e, r, h⟩ := h
  have h : PostE K xo mg W B σ F (.ok (.d (.dict [])) e) Q := h
  exact fun p hp => h _ _ _ (r.laid hp) (same_upd (r.f0 hp)) (.dic0 upd_same)
theorem sem_popi {i : Nat} {b : Ex} (h : tE K xo mg G Γ W (.popi i b) σ H Q) : tBM K "list" rPopAt (tVar i) (tCons (tE K xo mg G Γ W b) tNil) σ H Q := by
  obtain ⟨B, F, e, r, h⟩ := h
  have h : PostE K xo mg W B σ F (match e[i]? with
    | some (.own _ _) => (evE G Γ b e).bind fun k e1 => match e1[i]? with
      | some (.own p xs) => match popD xs k.fz with
        | some (x, ys) => .ok (.d x) (e1.set i (.own p ys))
        | none => R.bad
      | _ => R.bad
    | _ => R.bad) Q := h
  cases q : e[i]? with
  | none => rw [q] at h; exact h.elim
  | some s =>
    rw [q] at h
    cases s with
    | un => exact h.elim
    | val _ => exact h.elim
    | own p xs =>
      obtain ⟨a, vs, g1, g2, _⟩ := r.own i p xs q
      refine ⟨.ref a, g1, .inl ⟨rfl, vs, .inl (.inl g2)⟩, ?_⟩
      have h : PostE K xo mg W B σ F ((evE G Γ b e).bind fun k e1 => match e1[i]? with
        | some (.own p xs) => match popD xs k.fz with
          | some (x, ys) => .ok (.d x) (e1.set i (.own p ys))
          | none => R.bad
        | _ => R.bad) Q := h
      refine tE_bind r h (fun x y e q => by rw [q]) fun x e1 v H1 F1 r1 s1 dv hp => ?_
      have hp : PostE K xo mg W B σ F1 (match e1[i]? with
        | some (.own p xs) => match popD xs x with
          | some (x, ys) => .ok (.d x) (e1.set i (.own p ys))
          | none => R.bad
        | _ => R.bad) Q := hp
      cases q1 : e1[i]? with
      | none => rw [q1] at hp; exact hp.elim
      | some s1 =>
        rw [q1] at hp
        cases s1 with
        | un => exact hp.elim
        | val _ => exact hp.elim
        | own p1 xs1 =>
          obtain ⟨a1, vs1, k1, k2, k3, k4, _⟩ := r1.own i p1 xs1 q1
          rw [g1] at k1
          injection k1 with k1
          injection k1 with k1
          injection k1 with k1
          subst k1
          have hp : PostE K xo mg W B σ F1 (match popD xs1 x with
            | some (x, ys) => R.ok (DV.d x) (e1.set i (.own p1 ys))
            | none => R.bad) Q := hp
          cases dv with
          | int j =>
            by_cases hj : 0 ≤ j ∧ j ≤ 1000000000
            rotate_left
            · rw [show popD xs1 (.int j) = none from if_neg hj] at hp
              exact hp.elim
            have ep : popD xs1 (.int j) = (match xs1[j.toNat]? with
              | some x => some (x, xs1.eraseIdx j.toNat)
              | none => none) := if_pos hj
            rw [ep] at hp
            cases ex : xs1[j.toNat]? with
            | none => rw [ex] at hp; exact hp.elim
            | some y =>
              rw [ex] at hp
              have hp : PostE K xo mg W B σ F1 (R.ok (DV.d y) (e1.set i (.own p1 (xs1.eraseIdx j.toNat)))) Q := hp
              obtain ⟨z, z1, z2⟩ := k4.get ex
              have hlt : j.toNat < vs1.length := (List.getElem?_eq_some_iff.mp z1).1
              refine ⟨a, vs1, j, j.toNat, z, rfl, rfl, k2, by omega, by omega, ?_, z1, ?_⟩
              · show (if (0 ≤ (if j < 0 then j + (vs1.length : Int) else j) && (if j < 0 then j + (vs1.length : Int) else j) < (vs1.length : Int)) = true then some (if j < 0 then j + (vs1.length : Int) else j).toNat else none) = some j.toNat
                rw [if_neg (show ¬ j < 0 by omega), if_pos (by rw [Bool.and_eq_true, decide_eq_true_eq, decide_eq_true_eq]; omega)]
              · exact hp z _ F1 (r1.write q1 g1 (k4.eraseIdx _)) (Same.refl _) z2
          | non => exact hp.elim
          | bl _ => exact hp.elim
          | str _ => exact hp.elim
          | lst _ _ => exact hp.elim
          | tup _ _ => exact hp.elim
          | scr _ _ => exact hp.elim
          | exc0 _ _ => exact hp.elim
          | exc1 _ _ _ _ => exact hp.elim
          | dic0 _ => exact hp.elim
theorem sem_oadd {i : Nat} {a : Ex} (h : tE K xo mg G Γ W (.oadd a i) σ H Q) : tOp rCat (tE K xo mg G Γ W a) (tVar i) σ H Q := by
  obtain ⟨B, F, e, r, h⟩ := h
  have h : PostE K xo mg W B σ F ((evE G Γ a e).bind fun x e1 => match e1[i]? with
    | some (.own _ ys) => toR (bin .add x.fz (.list ys)) e1
    | _ => R.bad) Q := h
  refine tE_bind r h (fun x y e q => by rw [q]) fun x e1 v H1 F1 r1 s1 dv hp => ?_
  have hp : PostE K xo mg W B σ F1 (match e1[i]? with
    | some (.own _ ys) => toR (bin .add x (.list ys)) e1
    | _ => R.bad) Q := hp
  cases q1 : e1[i]? with
  | none => rw [q1] at hp; exact hp.elim
  | some s1 =>
    rw [q1] at hp
    cases s1 with
    | un => exact hp.elim
    | val _ => exact hp.elim
    | own p ys =>
      obtain ⟨b, vs1, k1, k2, k3, k4, _⟩ := r1.own i p ys q1
      obtain ⟨dd, ed, hp⟩ := toR_E hp
      refine ⟨.ref b, k1, ?_⟩
      cases dv with
      | lst h1 a1 =>
        rename_i ds _
        have ed : (if ds.length + ys.length ≤ lim then some (DV.fr (ds ++ ys)) else none) = some dd := ed
        split at ed
        · rename_i hl
          have z := Option.some.inj ed
          subst z
          exact ⟨_, _, _, _, rfl, rfl, r1.sub _ _ h1, k2, by rw [a1.length, k4.length]; exact lim_line hl, post_lst r1 hp (a1.append k4)⟩
        · cases ed
      | int _ => cases ed
      | non => cases ed
      | bl _ => cases ed
      | str _ => cases ed
      | tup _ _ => cases ed
      | scr _ _ => cases ed
      | exc0 _ _ => cases ed
      | exc1 _ _ _ _ => cases ed
      | dic0 _ => cases ed
theorem sem_op {a : Ex} {Q : Option Int → Hp → Prop} (h : tO K xo mg G Γ W (.som a) σ H Q) : tPart (tE K xo mg G Γ W a) σ H Q := by
  obtain ⟨B, F, e, r, h⟩ := h
  have h : PostX K xo mg W B σ F ((evE G Γ a e).bind fun x e1 => match x.fz with
    | .int i => .ok (some i) e1
    | _ => R.bad) (fun i _ _ H1 => Q i H1) := h
  refine tE_bindX r h (fun x y e q => by rw [q]) fun x e1 v H1 F1 r1 s1 dv hp => ?_
  cases x with
  | int i =>
    cases dv
    exact ⟨i, rfl, hp H1 F1 r1 (Same.refl _)⟩
  | none => exact hp.elim
  | bool _ => exact hp.elim
  | str _ => exact hp.elim
  | list _ => exact hp.elim
  | tuple _ => exact hp.elim
  | dict _ => exact hp.elim
def rSl2 (K : PySem.W.Frag) : V → Option Int → Option Int → Hp → VK → Prop := fun x lo hi H Q => rSlL K x lo hi H Q ∨ rSlA K x lo hi H Q
theorem sem_sl {a : Ex} {lo hi : Op} (h : tE K xo mg G Γ W (.sl a lo hi) σ H Q) : tSl (rSl2 K) (tE K xo mg G Γ W a) (tO K xo mg G Γ W lo) (tO K xo mg G Γ W hi) σ H Q := by
  obtain ⟨B, F, e, r, h⟩ := h
  have h : PostE K xo mg W B σ F ((evE G Γ a e).bind fun x e1 => (evOp G Γ lo e1).bind fun i e2 => (evOp G Γ hi e2).bind fun j e3 => toR (sl x.fz i j) e3) Q := h
  refine tE_bind r h (fun x y e q => by rw [q]) fun x e1 v H1 F1 r1 s1 dv hp => ?_
  refine ⟨B, F1, e1, r1, PostX.imp (bindXE hp) fun i e2 F2 H2 r2 s2 hp => ?_⟩
  refine ⟨B, F2, e2, r2, PostX.imp (bindXE hp) fun j e3 F3 H3 r3 s3 hp => ?_⟩
  obtain ⟨dd, ed, hp⟩ := toR_E hp
  have dv3 := (dv.mono s2).mono s3
  cases dv3 with
  | lst hp1 da =>
    have ed' := Option.some.inj ed
    subst ed'
    exact .inl ⟨_, _, rfl, .inl (.inl (r3.sub _ _ hp1)), post_lst r3 hp (da.cutD i j)⟩
  | @tup a1 vs1 ds1 hp1 da =>
    have ed' := Option.some.inj ed
    subst ed'
    refine .inr ⟨_, _, rfl, sqt_mono r3.sub hp1, fun ⟨z1, z2⟩ => ?_, fun _ => post_tup r3 hp (da.cutD i j)⟩
    refine post_val r3 hp (.tup hp1 ?_)
    have hc := da.cutD i j
    have ec : cutV vs1 i j = vs1 := by
      show (vs1.drop (HT.sIx vs1.length 0 i)).take (HT.sIx vs1.length vs1.length j - HT.sIx vs1.length 0 i) = vs1
      rw [z1, z2, List.drop_zero, Nat.sub_zero, List.take_length]
    rw [ec] at hc
    exact hc
  | non => cases ed
  | bl _ => cases ed
  | int _ => cases ed
  | str _ => cases ed
  | scr _ _ => cases ed
  | exc0 _ _ => cases ed
  | exc1 _ _ _ _ => cases ed
  | dic0 _ => cases ed
theorem sem_rsl {a : Ex} (h : tE K xo mg G Γ W (.rsl a) σ H Q) : tRevA K (tE K xo mg G Γ W a) σ H Q := by
  obtain ⟨B, F, e, r, h⟩ := h
  have h : PostE K xo mg W B σ F ((evE G Γ a e).bind fun x e1 => toR (revSl x.fz) e1) Q := h
  refine tE_bind r h (fun x y e q => by rw [q]) fun x e1 v H1 F1 r1 s1 dv hp => ?_
  obtain ⟨dd, ed, hp⟩ := toR_E hp
  cases dv with
  | lst hp1 da =>
    have ed' := Option.some.inj ed
    subst ed'
    exact ⟨_, _, rfl, .inl ⟨.inl (.inl (r1.sub _ _ hp1)), post_lst r1 hp da.rev⟩⟩
  | tup hp1 da =>
    have ed' := Option.some.inj ed
    subst ed'
    exact ⟨_, _, rfl, .inr ⟨sqt_mono r1.sub hp1, post_tup r1 hp da.rev⟩⟩
  | non => cases ed
  | bl _ => cases ed
  | int _ => cases ed
  | str _ => cases ed
  | scr _ _ => cases ed
  | exc0 _ _ => cases ed
  | exc1 _ _ _ _ => cases ed
  | dic0 _ => cases ed
theorem sem_cons {a : Ex} {as : Exs} {Q : List V → Hp → Prop} (h : tEs K xo mg G Γ W (.cons a as) σ H Q) : tCons (tE K xo mg G Γ W a) (tEs K xo mg G Γ W as) σ H Q := by
  obtain ⟨B, F, e, r, h⟩ := h
  have h : PostX K xo mg W B σ F ((evE G Γ a e).bind fun x e1 => (evEs G Γ as e1).bind fun xs e2 => .ok (x.fz :: xs) e2) (fun ds e1 F1 H1 => ∀ vs, DenAll K xo F1 vs ds → Q vs H1) := h
  refine tE_bindX r h (fun x y e q => by rw [q]) fun x e1 v H1 F1 r1 s1 dv hp => ?_
  refine ⟨B, F1, e1, r1, PostX.imp (bindX hp) fun xs e2 F2 H2 r2 s2 hp vs da => ?_⟩
  exact hp H2 F2 r2 (Same.refl _) (v :: vs) (.cons (dv.mono s2) da)
/-- more code objects, longer tables -/
theorem Rel.extN {H2 : Hp} (r : Rel K xo B F σ H e) (x : LamX.ExtN H H2) (tk : TbK H H2) (t2 : LamX.Tabs xo.T H2) : Rel K xo B F σ H2 e where
  sub := fun a o q => x a o (r.sub a o q) fun ps z => r.tabs.nt a ps (by rw [← z]; exact q)
  sub0 := r.sub0
  new := r.new
  hpa := r.hpa
  keep := fun a o q z t => x a o (r.keep a o q z t) t
  tbk := fun a ps q => (r.tbk a ps q).elim fun ps' e => tk a ps' e
  tabs := ⟨t2, r.tabs.nt⟩
  ob := fun a z => by
    cases q : H a with
    | none => exact absurd q (r.ob a z)
    | some o =>
      by_cases t : ∃ ps, o = .tbl ps
      · obtain ⟨ps, rfl⟩ := t
        obtain ⟨ps', e⟩ := tk a ps q
        rw [e]; exact fun w => nomatch w
      · rw [x a o q fun ps e => t ⟨ps, e⟩]; exact fun w => nomatch w
  len := r.len
  val := r.val
  own := fun i p ds q => by
    obtain ⟨a, vs, g1, g2, g3⟩ := r.own i p ds q
    exact ⟨a, vs, g1, x a _ g2 (fun ps e => nomatch e), g3⟩
  sep := r.sep
theorem den_atI {xs : List V} {ds : List D} {w : Int} {n : Int} (h : DenAll K xo F xs ds) (e : L2.atI ds w = some (.int n)) : L2.atI xs w = some (.int n) := by
  unfold L2.atI at e ⊢
  rw [h.length]
  cases q : L2.ixN ds.length w with
  | none => rw [q] at e; cases e
  | some j =>
    rw [q] at e
    obtain ⟨v, g1, g2⟩ := h.get (i := j) e
    cases g2
    exact g1
theorem keys_at {w : Int} (s : Same F H) : ∀ {xs : List V} {ds : List D} {ns : List Int}, DenAll K xo F xs ds → keysD w ds = some ns → KeysAt K H w xs ns
  | _, _, _, .nil, e => by
    have e := Option.some.inj e
    subst e
    exact .nil
  | _, d :: ds, ns, .cons h r, e => by
    cases h with
    | tup hT da =>
      rename_i us its
      have e : (match L2.atI its w with | some (.int n) => (keysD w ds).map (n :: ·) | _ => none) = some ns := e
      split at e
      · rename_i n q
        cases k : keysD w ds with
        | none => rw [k] at e; cases e
        | some ms =>
          rw [k] at e
          have e := Option.some.inj e
          subst e
          exact .cons (sqt_mono s hT) (den_atI da q) (keys_at s r k)
      · cases e
    | _ => exact nomatch e
theorem KeysAt.len {w : Int} : ∀ {xs : List V} {ns : List Int}, KeysAt K H w xs ns → xs.length = ns.length
  | _, _, .nil => rfl
  | _, _, .cons _ _ h => congrArg (· + 1) h.len
theorem den_map {γ : Type} {f : γ → V} {g : γ → D} : ∀ {l : List γ}, (∀ z ∈ l, Den K xo F (f z) (g z)) → DenAll K xo F (l.map f) (l.map g)
  | [], _ => .nil
  | z :: l, h => .cons (h z List.mem_cons_self) (den_map fun y hy => h y (List.mem_cons_of_mem _ hy))
theorem den_zip3 : ∀ {xs : List V} {ds : List D} {ns : List Int}, DenAll K xo F xs ds → xs.length = ns.length → ∃ zs : List (V × D × Int), xs.zip ns = zs.map (fun z => (z.1, z.2.2)) ∧ ds.zip ns = zs.map (fun z => (z.2.1, z.2.2)) ∧ ∀ z ∈ zs, Den K xo F z.1 z.2.1
  | _, _, [], .nil, _ => ⟨[], rfl, rfl, fun z h => nomatch h⟩
  | _, _, n :: ns, .cons h r, e => by
    obtain ⟨zs, h1, h2, h3⟩ := den_zip3 (ns := ns) r (by simpa using e)
    rename_i v vs d ds
    refine ⟨(v, d, n) :: zs, ?_, ?_, fun z hz => ?_⟩
    · rw [List.zip_cons_cons, h1]; rfl
    · rw [List.zip_cons_cons, h2]; rfl
    · rcases List.mem_cons.mp hz with q | q
      · rw [q]; exact h
      · exact h3 z q
theorem den_sort {xs : List V} {ds : List D} {ns : List Int} (h : DenAll K xo F xs ds) (e : xs.length = ns.length) : DenAll K xo F (sortV xs ns) (sortD ds ns) := by
  obtain ⟨zs, h1, h2, h3⟩ := den_zip3 h e
  unfold sortV sortD
  rw [h1, h2, ← List.map_mergeSort (r := fun p q => keyLe p.2.2 q.2.2) fun _ _ _ _ => rfl, ← List.map_mergeSort (r := fun p q => keyLe p.2.2 q.2.2) fun _ _ _ _ => rfl, List.map_map, List.map_map]
  exact den_map fun z hz => h3 z (List.mem_mergeSort.mp hz)
theorem sem_skey {a : Ex} {i : Nat} (h : tE K xo mg G Γ W (.skey a i) σ H Q) : tKey K xo.T i (tE K xo mg G Γ W a) σ H Q := by
  obtain ⟨B, F, e, r, h⟩ := h
  have h : PostE K xo mg W B σ F ((evE G Γ a e).bind fun x e1 => match e1[i]? with
    | some (.val (.int w)) => toR (sortK w x.fz) e1
    | _ => R.bad) Q := h
  refine tE_bind r h (fun x y e q => by rw [q]) fun x e1 v H1 F1 r1 s1 dv hp => ?_
  have hp : PostE K xo mg W B σ F1 (match e1[i]? with
    | some (.val (.int w)) => toR (sortK w x) e1
    | _ => R.bad) Q := hp
  split at hp
  · rename_i w q
    obtain ⟨dd, ed, hp⟩ := toR_E hp
    obtain ⟨v2, g1, g2⟩ := r1.val i _ q
    cases g2
    cases x with
    | list ds =>
      have ed : (keysD w ds).map (fun ns => DV.fr (sortD ds ns)) = some dd := ed
      cases kd : keysD w ds with
      | none => rw [kd] at ed; cases ed
      | some ns =>
        rw [kd] at ed
        have ed := Option.some.inj ed
        subst ed
        cases dv with
        | lst hF da =>
          have ka := keys_at r1.sub da kd
          refine ⟨_, _, ns, w, rfl, .inl (.inl (r1.sub _ _ hF)), g1, r1.tabs.t, ka, fun H2 x2 k2 t2 p hp2 => ?_⟩
          exact post_lst (r1.extN x2 k2 t2) hp (den_sort da ka.len) p hp2
    | _ => cases ed
  · exact hp.elim
theorem sem_bi {f : Bi} {es : Exs} (h : tE K xo mg G Γ W (.bi f es) σ H Q) : tCB (rBi K xo mg W f) (tEs K xo mg G Γ W es) σ H Q := by
  obtain ⟨B, F, e, r, h⟩ := h
  have h : PostE K xo mg W B σ F ((evEs G Γ es e).bind fun xs e1 => toR (bi f xs) e1) Q := h
  refine ⟨B, F, e, r, PostX.imp (bindXE h) fun xs e1 F1 H1 r1 s1 hp vs dv => ?_⟩
  obtain ⟨dd, ed, hp⟩ := toR_E hp
  exact ⟨B, F1, σ, e1, xs, dd, r1, dv, ed, hp⟩
end
end DL


set_option Elab.async false
set_option linter.all false
set_option maxRecDepth 100000
set_option maxHeartbeats 4000000
/-! DL16: a text that agrees with its term does what the term says (terms). -/
namespace DL
open PySem PySem.Spec PyProof.Rows L2

section
variable {K : PySem.W.Frag} {xo : XO} {mg : Str → Option Value} {G : List D} {Γ : List Fn} {W : WX} {B : FB} {σ : L2.St} {F F1 H : Hp} {e : Env} {Q : VK} {α β : Type}
theorem sem_isi {t : Ty} {a : Ex} (h : tE K xo mg G Γ W (.bi (.isi t) (.cons a .nil)) σ H Q) :
    tCB (fun vs H Q => ∃ (F : Hp) (v : V) (d : D) (b : D), vs = [v, .ty (tyStr t)] ∧ Same F H ∧ Den K xo F v d ∧ bi (.isi t) [d] = some (.d b) ∧ (∃ k, b = .bool k ∧ Q (.bl k) H)) (tCons (tE K xo mg G Γ W a) (tCons (tC (.ty (tyStr t))) tNil)) σ H Q := by
  obtain ⟨B, F, e, r, h⟩ := h
  have h : PostE K xo mg W B σ F ((evE G Γ a e).bind fun x e1 => toR (bi (.isi t) [x.fz]) e1) Q := by
    have h : PostE K xo mg W B σ F (((evE G Γ a e).bind fun x e1 => R.ok (x.fz :: []) e1).bind fun xs e1 => toR (bi (.isi t) xs) e1) Q := h
    cases q : evE G Γ a e with
    | bad => rw [q] at h; exact h
    | exn c ps e => rw [q] at h; exact h
    | ok x e1 => rw [q] at h; exact h
  refine tE_bind r h (fun x y e q => by rw [q]) fun x e1 v H1 F1 r1 s1 dv hp => ?_
  obtain ⟨dd, ed, hp⟩ := toR_E hp
  have ed : bi (.isi t) [x] = some dd := ed
  have e2 : ∃ k, dd = .d (.bool k) := by
    have h0 : bi (.isi t) [x] = none ∨ bi (.isi t) [x] = some (.d (.bool (tyIs t x))) := by
      cases x with
      | dict l => cases l with
        | nil => rw [show tyIs t (.dict []) = false by cases t <;> rfl]; exact .inr rfl
        | cons _ _ => exact .inl rfl
      | _ => exact .inr rfl
    rcases h0 with z | z
    · rw [z] at ed; cases ed
    · rw [z] at ed
      exact ⟨_, (Option.some.inj ed).symm⟩
  obtain ⟨k, ek⟩ := e2
  subst ek
  exact ⟨F1, v, x, .bool k, rfl, r1.sub, dv, ed, k, rfl, post_val r1 hp (.bl _)⟩
/-- isinstance of None or of an exception that is held -/
theorem sem_isx {a : Ex} {c : Str} {cv : V} {u : Value} (k : ClsV cv u) (ef : ExF K mg) (xofi : ∀ k dx o, exNames.contains k = true → (xo k dx o ↔ ∃ C a, mg k = some (.ref C) ∧ o = ExD (.ref C) dx a))
    (hc : (c = ("ValueError" : Str) ∧ u = .type "ValueError") ∨ ∃ C, u = .ref C ∧ mg c = some (.ref C) ∧ exNames.contains c = true) (h : tE K xo mg G Γ W (.isx a c) σ H Q) :
    tCB (rIsY K) (tCons (tE K xo mg G Γ W a) (tCons (tC cv) tNil)) σ H Q := by
  obtain ⟨B, F, e, r, h⟩ := h
  have h : PostE K xo mg W B σ F ((evE G Γ a e).bind fun x e1 => toR ((isX c x.fz).map fun b => .d (.bool b)) e1) Q := h
  refine tE_bind r h (fun x y e q => by rw [q]) fun x e1 v H1 F1 r1 s1 dv hp => ?_
  obtain ⟨dd, ed, hp⟩ := toR_E hp
  have ed : (isX c x).map (fun b => DV.d (.bool b)) = some dd := ed
  cases q : isX c x with
  | none => rw [q] at ed; cases ed
  | some b =>
    rw [q] at ed
    have ed := Option.some.inj ed
    subst ed
    refine ⟨v, cv, u, b, rfl, k, ?_, post_val r1 hp (.bl _)⟩
    have kit : ∀ {y : Str} {C : Addr}, exNames.contains y = true → mg y = some (.ref C) → PySem.W.kitOne K (.ref C) u = some (exSub y c) := fun {y C} hy m1 => by
      rcases hc with ⟨rfl, rfl⟩ | ⟨D, rfl, m2, hD⟩
      · rw [(ef.cls _ C hy m1).2.1]
        simp [exSub]
      · exact (ef.sub _ _ _ _ hy hD m1 m2).1
    unfold isX at q
    split at q
    · rename_i y
      split at q
      · rename_i hy
        rw [Bool.and_eq_true] at hy
        have q := Option.some.inj q
        subst q
        right
        cases dv with
        | exc0 g1 g2 =>
          obtain ⟨C, a', m1, rfl⟩ := (xofi _ _ _ hy.1).mp g2
          exact ⟨_, C, a', none, rfl, r1.sub _ _ g1, (fun dx z => nomatch z), (ef.cls _ C hy.1 m1).1, kit hy.1 m1⟩
      · cases q
    · rename_i y p
      split at q
      · rename_i hy
        rw [Bool.and_eq_true] at hy
        have q := Option.some.inj q
        subst q
        right
        cases dv with
        | exc1 g1 g2 g3 g4 =>
          obtain ⟨C, a', m1, rfl⟩ := (xofi _ _ _ hy.1).mp g2
          exact ⟨_, C, a', _, rfl, r1.sub _ _ g1, (fun dx z => by injection z with z; subst z; exact ⟨_, r1.sub _ _ g3⟩), (ef.cls _ C hy.1 m1).1, kit hy.1 m1⟩
      · cases q
    · split at q
      · rename_i hy
        have q := Option.some.inj q
        subst q
        cases dv
        refine .inl ⟨rfl, ?_⟩
        rcases hc with ⟨rfl, rfl⟩ | ⟨D, rfl, m2, hD⟩
        · exact kit_ty (by decide +kernel)
        · exact (ef.cls _ D hD m2).2.2
      · cases q
    · cases q
/-- an exception made without a field -/
theorem sem_mkx0 {c : Str} {C : Addr} (hc : exNames.contains c = true) (hm : mg c = some (.ref C)) (xofi : ∀ k dx o, exNames.contains k = true → (xo k dx o ↔ ∃ C a, mg k = some (.ref C) ∧ o = ExD (.ref C) dx a)) (h : tE K xo mg G Γ W (.mkx c .nil) σ H Q) :
    ∀ a, H a = none → Q (.ref a) (upd H a (ExD (.ref C) none a)) := by
  obtain ⟨B, F, e, r, h⟩ := h
  have h : PostE K xo mg W B σ F (.ok (.d (exD c [])) e) Q := h
  intro a na
  exact h _ _ _ (r.laid na) (same_upd (r.f0 na)) (.exc0 upd_same ((xofi c none _ hc).mpr ⟨C, a, hm, rfl⟩))
theorem sem_mkx1 {c : Str} {C : Addr} {b : Ex} (hc : exNames.contains c = true) (hm : mg c = some (.ref C)) (xofi : ∀ k dx o, exNames.contains k = true → (xo k dx o ↔ ∃ C a, mg k = some (.ref C) ∧ o = ExD (.ref C) dx a)) (h : tE K xo mg G Γ W (.mkx c (.cons b .nil)) σ H Q) :
    tE K xo mg G Γ W b σ H fun _ H1 => ∀ a, H1 a = none → Q (.ref a) (upd H1 a (ExD (.ref C) none a)) := by
  obtain ⟨B, F, e, r, h⟩ := h
  have h : PostE K xo mg W B σ F ((evE G Γ b e).bind fun _ e1 => R.ok (.d (exD c [])) e1) Q := by
    have h : PostE K xo mg W B σ F (((evE G Γ b e).bind fun x e1 => (evEs G Γ .nil e1).bind fun xs e2 => R.ok (x.fz :: xs) e2).bind fun _ e1 => R.ok (.d (exD c [])) e1) Q := h
    cases q : evE G Γ b e with
    | bad => rw [q] at h; exact h
    | exn _ _ _ => rw [q] at h; exact h
    | ok v e1 => rw [q] at h; exact h
  refine tE_bind r h (fun x y e q => rfl) fun x e1 v H1 F1 r1 s1 dv hp => ?_
  intro a na
  exact hp _ _ _ (r1.laid na) (same_upd (r1.f0 na)) (.exc0 upd_same ((xofi c none _ hc).mpr ⟨C, a, hm, rfl⟩))
/-- .. with a field -/
theorem sem_mk1 {c : Str} {kw : Bool} {C : Addr} {b : Ex} (hc : exNames.contains c = true) (hm : mg c = some (.ref C)) (xofi : ∀ k dx o, exNames.contains k = true → (xo k dx o ↔ ∃ C a, mg k = some (.ref C) ∧ o = ExD (.ref C) dx a)) (h : tE K xo mg G Γ W (.mk1 c kw b) σ H Q) :
    tMkO C (spInit C (fieldOf c)) [] (tCons (tE K xo mg G Γ W b) tNil) σ H fun cls d H' => ∀ a, H' a = none → Q (.ref a) (upd H' a (ExD cls d a)) := by
  obtain ⟨B, F, e, r, h⟩ := h
  have h : PostE K xo mg W B σ F ((evE G Γ b e).bind fun x e1 => R.ok (.d (exD c [x.fz])) e1) Q := h
  refine tE_bind r h (fun x y e q => by rw [q]) fun x e1 v H1 F1 r1 s1 dv hp => ?_
  refine ⟨(show 1 ≤ 1000 by decide), fun p np => ⟨p, v, rfl, upd_same, fun d nd ne => ⟨rfl, d, [(fieldOf c, v)], upd_same, ?_, ?_, ?_⟩⟩⟩
  · rw [upd_ne ne, upd_same]
  · rw [upd_ne ne] at nd; exact nd
  · have nd' : H1 d = none := by rw [upd_ne ne] at nd; exact nd
    have eH : upd (del (upd (upd (upd H1 p (exo p C none)) d (exd d [(fieldOf c, v)])) p (exo p C (some d))) p) d (HO.xd [(fieldOf c, v)]) = upd H1 d (HO.xd [(fieldOf c, v)]) := by
      funext b
      by_cases hb : b = d
      · subst hb; rw [upd_same, upd_same]
      · rw [upd_ne hb, upd_ne hb]
        by_cases hp : b = p
        · subst hp; rw [del_same, np]
        · rw [del_ne hp, upd_ne hp, upd_ne hb, upd_ne hp]
    rw [eH]
    intro a na
    have r2 := r1.laid (u := HO.xd [(fieldOf c, v)]) nd'
    have s2 := same_upd (o := HO.xd [(fieldOf c, v)]) (r1.f0 nd')
    have s3 := same_upd (o := ExD (.ref C) (some d) a) (r2.f0 na)
    exact hp _ _ _ (r2.laid na) (s2.trans s3) (.exc1 upd_same ((xofi c (some d) _ hc).mpr ⟨C, a, hm, rfl⟩) (s3 _ _ upd_same) ((dv.mono s2).mono s3))
/-- an exception's field -/
theorem sem_fld {b : Ex} {f : Str} (ef : ExF K mg) (xofi : ∀ k dx o, exNames.contains k = true → (xo k dx o ↔ ∃ C a, mg k = some (.ref C) ∧ o = ExD (.ref C) dx a)) (h : tE K xo mg G Γ W (.fld b f) σ H Q) : tFld K f (tE K xo mg G Γ W b) σ H Q := by
  obtain ⟨B, F, e, r, h⟩ := h
  have h : PostE K xo mg W B σ F ((evE G Γ b e).bind fun x e1 => toR ((fldD f x.fz).map .d) e1) Q := h
  refine tE_bind r h (fun x y e q => by rw [q]) fun x e1 v H1 F1 r1 s1 dv hp => ?_
  obtain ⟨dd, ed, hp⟩ := toR_E hp
  have ed : (fldD f x).map DV.d = some dd := ed
  cases q : fldD f x with
  | none => rw [q] at ed; cases ed
  | some p =>
    rw [q] at ed
    have ed := Option.some.inj ed
    subst ed
    unfold fldD at q
    split at q
    · rename_i k p'
      split at q
      · rename_i hk
        rw [Bool.and_eq_true, beq_iff_eq] at hk
        obtain ⟨hk, rfl⟩ := hk
        have q := Option.some.inj q
        subst q
        cases dv with
        | exc1 g1 g2 g3 g4 =>
          obtain ⟨C, a', m1, rfl⟩ := (xofi _ _ _ hk).mp g2
          exact ⟨_, a', C, _, [(fieldOf k, _)], _, rfl, r1.sub _ _ g1, xfC_of (ef.cls k C hk m1).1, ef.fld k C hk m1, r1.sub _ _ g3, by rw [lookup_put, if_pos rfl], post_val r1 hp g4⟩
      · cases q
    · cases q
def rLen2 (K : PySem.W.Frag) : List V → Hp → VK → Prop := fun xs H Q => ∃ p ys, xs = [.ref p] ∧ (SqL K H p ys ∨ SqT K H p ys) ∧ Q (.int ys.length) H
theorem sem_olen {i : Nat} (h : tE K xo mg G Γ W (.olen i) σ H Q) : tCB (rLen2 K) (tCons (tVar i) tNil) σ H Q := by
  obtain ⟨B, F, e, r, h⟩ := h
  have h : PostE K xo mg W B σ F (match e[i]? with
    | some (.own _ xs) => R.ok (DV.d (.int xs.length)) e
    | _ => R.bad) Q := h
  cases q : e[i]? with
  | none => rw [q] at h; exact h.elim
  | some s =>
    rw [q] at h
    cases s with
    | un => exact h.elim
    | val _ => exact h.elim
    | own p xs =>
      obtain ⟨a, vs, g1, g2, g3, g4, _⟩ := r.own i p xs q
      refine ⟨.ref a, g1, a, vs, rfl, .inl (.inl (.inl g2)), ?_⟩
      rw [g4.length]
      exact post_val r h (.int _)
theorem sem_call {k : Nat} {es : Exs} {f : Fn} (hf : Γ[k]? = some f) (h : tE K xo mg G Γ W (.call k es) σ H Q) : tCallSD (spFn K xo mg f) [] (WE W) (tEs K xo mg G Γ W es) σ H Q := by
  obtain ⟨B, F, e, r, h⟩ := h
  have h : PostE K xo mg W B σ F ((evEs G Γ es e).bind fun xs e1 => match Γ[k]? with
    | some f => if f.own = false ∧ f.np = xs.length then (match f.run [] xs with
      | .ret v _ => R.ok v e1
      | .exn c ps _ => R.exn c ps e1
      | .bad => R.bad) else R.bad
    | none => R.bad) Q := h
  refine ⟨B, F, e, r, PostX.imp (bindXE h) fun xs e1 F1 H1 r1 s1 hp vs dv => ?_⟩
  rw [hf] at hp
  have hp : PostE K xo mg W B σ F1 (if f.own = false ∧ f.np = xs.length then (match f.run [] xs with
      | .ret v _ => R.ok v e1
      | .exn c ps _ => R.exn c ps e1
      | .bad => R.bad) else R.bad) Q := hp
  by_cases hc : f.own = false ∧ f.np = xs.length
  rotate_left
  · rw [if_neg hc] at hp; exact hp.elim
  rw [if_pos hc] at hp
  rw [List.append_nil]
  refine ⟨by rw [dv.length]; exact hc.2.symm, r1.tabs.t, F1, ⟨r1.sub, r1.tabs.nt⟩, .inl ⟨hc.1, xs, dv, ?_⟩⟩
  cases hr : f.run [] xs with
  | bad => rw [hr] at hp; exact hp.elim
  | exn c ps o' =>
    rw [hr] at hp
    exact fun cls dx H' F' fin x => hp cls dx H' F' (r1.called fin) fin.subF x
  | ret v o' =>
    rw [hr] at hp
    cases v with
    | d d => exact fun v H' F' fin dn => hp v H' F' (r1.called fin) fin.subF dn
    | fr ds => exact fun p ws H' F' fin hp1 hF1 da h0 => hp p ws H' F' (r1.called fin) fin.subF hp1 hF1 da (.inl (r1.h0 h0)) fun i pp es q => r1.ownNe h0 i pp es q
/-- [f, g][x], made and looked into -/
def tPick (i : Nat) (u v : V) (t : V → TE) : TE := fun σ H Q => ∃ w : Int, σ[i]? = some (some (.int w)) ∧ (w = 0 ∨ w = 1) ∧ ∀ p, H p = none → t (if w = 0 then u else v) σ (upd H p (.lst [u, v])) Q
theorem sem_call2 {i k1 k2 : Nat} {es : Exs} (h : tE K xo mg G Γ W (.call2 i k1 k2 es) σ H Q) (u v : V) : ∃ w : Int, σ[i]? = some (some (.int w)) ∧ (w = 0 ∨ w = 1) ∧ ∀ p, H p = none → tE K xo mg G Γ W (.call (if w = 0 then k1 else k2) es) σ (upd H p (.lst [u, v])) Q := by
  obtain ⟨B, F, e, r, h⟩ := h
  have h : PostE K xo mg W B σ F (match e[i]? with
    | some (.val (.int w)) => if w = 0 ∨ w = 1 then evE G Γ (.call (if w = 0 then k1 else k2) es) e else R.bad
    | _ => R.bad) Q := h
  cases q : e[i]? with
  | none => rw [q] at h; exact h.elim
  | some s =>
    rw [q] at h
    cases s with
    | un => exact h.elim
    | own _ _ => exact h.elim
    | val d =>
      cases d with
      | int w =>
        have h : PostE K xo mg W B σ F (if w = 0 ∨ w = 1 then evE G Γ (.call (if w = 0 then k1 else k2) es) e else R.bad) Q := h
        by_cases hw : w = 0 ∨ w = 1
        rotate_left
        · rw [if_neg hw] at h; exact h.elim
        rw [if_pos hw] at h
        obtain ⟨z, g1, g2⟩ := r.val i _ q
        cases g2
        exact ⟨w, g1, hw, fun p hp => ⟨B, _, e, r.laid (u := HO.lst [u, v]) hp, PostE.sub h (same_upd (r.f0 hp))⟩⟩
      | none => exact h.elim
      | bool _ => exact h.elim
      | str _ => exact h.elim
      | list _ => exact h.elim
      | tuple _ => exact h.elim
      | dict _ => exact h.elim
theorem sem_callo {k i : Nat} {es : Exs} {f : Fn} (hf : Γ[k]? = some f) (h : tE K xo mg G Γ W (.callo k i es) σ H Q) : tCallSD (spFn K xo mg f) [] (WE W) (tCons (tVar i) (tEs K xo mg G Γ W es)) σ H Q := by
  obtain ⟨B, F, e, r, h⟩ := h
  have h : PostE K xo mg W B σ F (match e[i]? with
    | some (.own _ _) => (evEs G Γ es e).bind fun xs e1 => match Γ[k]?, e1[i]? with
      | some f, some (.own p o) => if f.own = true ∧ f.np = xs.length + 1 then (match f.run o xs with
        | .ret v o' => R.ok v (e1.set i (.own p o'))
        | .exn c ps o' => R.exn c ps (e1.set i (.own p o'))
        | .bad => R.bad) else R.bad
      | _, _ => R.bad
    | _ => R.bad) Q := h
  cases q : e[i]? with
  | none => rw [q] at h; exact h.elim
  | some s =>
    rw [q] at h
    cases s with
    | un => exact h.elim
    | val _ => exact h.elim
    | own p xs =>
      obtain ⟨a, vs, g1, _⟩ := r.own i p xs q
      refine ⟨.ref a, g1, ?_⟩
      have h : PostE K xo mg W B σ F ((evEs G Γ es e).bind fun xs e1 => match Γ[k]?, e1[i]? with
        | some f, some (.own p o) => if f.own = true ∧ f.np = xs.length + 1 then (match f.run o xs with
          | .ret v o' => R.ok v (e1.set i (.own p o'))
          | .exn c ps o' => R.exn c ps (e1.set i (.own p o'))
          | .bad => R.bad) else R.bad
        | _, _ => R.bad) Q := h
      refine ⟨B, F, e, r, PostX.imp (bindXE h) fun xs e1 F1 H1 r1 s1 hp us dv => ?_⟩
      have hp : PostE K xo mg W B σ F1 (match Γ[k]?, e1[i]? with
        | some f, some (.own p o) => if f.own = true ∧ f.np = xs.length + 1 then (match f.run o xs with
          | .ret v o' => R.ok v (e1.set i (.own p o'))
          | .exn c ps o' => R.exn c ps (e1.set i (.own p o'))
          | .bad => R.bad) else R.bad
        | _, _ => R.bad) Q := hp
      rw [hf] at hp
      cases q1 : e1[i]? with
      | none => rw [q1] at hp; exact hp.elim
      | some s1 =>
        rw [q1] at hp
        cases s1 with
        | un => exact hp.elim
        | val _ => exact hp.elim
        | own p1 o =>
          have hp : PostE K xo mg W B σ F1 (if f.own = true ∧ f.np = xs.length + 1 then (match f.run o xs with
            | .ret v o' => R.ok v (e1.set i (.own p1 o'))
            | .exn c ps o' => R.exn c ps (e1.set i (.own p1 o'))
            | .bad => R.bad) else R.bad) Q := hp
          by_cases hc : f.own = true ∧ f.np = xs.length + 1
          rotate_left
          · rw [if_neg hc] at hp; exact hp.elim
          rw [if_pos hc] at hp
          obtain ⟨a1, ws, k1, k2, k3, k4, k5, k6⟩ := r1.own i p1 o q1
          rw [g1] at k1
          injection k1 with k1
          injection k1 with k1
          injection k1 with k1
          subst k1
          show spFn K xo mg f ((V.ref a :: us) ++ []) H1 Q (WE W σ)
          rw [List.append_nil]
          refine ⟨by rw [List.length_cons, dv.length]; exact hc.2.symm, r1.tabs.t, F1, ⟨r1.sub, r1.tabs.nt⟩, .inr ⟨hc.1, a, us, ws, o, xs, rfl, k2, k3, k4, dv, ?_⟩⟩
          cases hr : f.run o xs with
          | bad => rw [hr] at hp; exact hp.elim
          | exn c ps o' =>
            rw [hr] at hp
            exact fun cls dx H' F' fin x => hp cls dx H' F' (r1.calledO q1 g1 fin) fin.subF x
          | ret v o' =>
            rw [hr] at hp
            cases v with
            | d d => exact fun v H' F' fin dn => hp v H' F' (r1.calledO q1 g1 fin) fin.subF dn
            | fr ds =>
              refine fun p ws' H' F' fin hp1 hF1 da h0 => hp p ws' H' F' (r1.calledO q1 g1 fin) fin.subF hp1 hF1 da (.inl (r1.h0 h0)) fun j pp es' z => ?_
              have old : ∃ pp es, e1[j]? = some (.own pp es) := by
                rcases getSet z with ⟨z1, _⟩ | ⟨_, z⟩
                · subst z1; exact ⟨_, _, q1⟩
                · exact ⟨_, _, z⟩
              obtain ⟨pp0, es0, z0⟩ := old
              exact r1.ownNe h0 j pp0 es0 z0
/-! ### what is walked -/
def iSeq (K : PySem.W.Frag) (tl : TE) : TI := fun σ H R => tl σ H fun x H1 => ∃ (t : Bool) (a : Addr) (xs : List V), x = .ref a ∧ Sq K H1 t a xs ∧ R (Its K t a) H1
theorem pi_seq {X : Cx} {tg l : Expr} {tl : TE} (hl : PE X l tl) : PI X tg l (iSeq X.K tl) := by
  refine ⟨fun pins s σ H R I h => thn (hl.run pins s σ H _ I h) fun v s1 ⟨x, H1, I1, r1, t, a, xs, ex, hq, q⟩ => ?_⟩
  subst ex
  cases r1
  cases t with
  | true =>
    obtain ⟨is1, rv1, p1, z1⟩ := I1.tuple hq
    exact wpAny_pyIter_tuple (show s1.heap.IsTuple a is1.toArray from p1) (pi_one (tk := s1.toks) I1 _ (turn_tuple a _) ⟨_, Heap.get?_push_size _ rfl, rfl, rfl⟩ q)
  | false =>
    obtain ⟨is1, rv1, p1, z1⟩ := I1.list hq
    exact wpAny_pyIter_list p1.isList (pi_one (tk := s1.toks) I1 _ (turn_list a _) ⟨_, Heap.get?_push_size _ rfl, rfl, rfl⟩ q)
theorem PI.imp {X : Cx} {tg e : Expr} {t t' : TI} (h : PI X tg e t) (i : ∀ σ H Q, t' σ H Q → t σ H Q) : PI X tg e t' := ⟨fun pins s σ H Q I q => h.run pins s σ H Q I (i σ H Q q)⟩
theorem PO.imp {X : Cx} {e : Option Expr} {t t' : TO} (h : PO X e t) (i : ∀ σ H Q, t' σ H Q → t σ H Q) : PO X e t' := ⟨fun pins s σ H Q I q => h.run pins s σ H Q I (i σ H Q q)⟩
theorem PTs.imp {X : Cx} {e : List Expr} {t t' : TT} (h : PTs X e t) (i : ∀ σ H Q, t' σ H Q → t σ H Q) : PTs X e t' := ⟨fun pins s σ H Q I q => h.run pins s σ H Q I (i σ H Q q)⟩
variable {Rj : L2.It → Hp → Prop}
theorem sem_seq {a : Ex} (h : tI K xo mg G Γ W (.seq a) σ H Rj) : iSeq K (tE K xo mg G Γ W a) σ H Rj := by
  obtain ⟨B, F, e, r, h⟩ := h
  have h : PostX K xo mg W B σ F ((evE G Γ a e).bind fun x e1 => toR (items? x.fz) e1) (fun ds _ F1 H1 => ∀ J, Wk K xo J F1 ds → Rj J H1) := h
  refine tE_bindX r h (fun x y e q => by rw [q]) fun x e1 v H1 F1 r1 s1 dv hp => ?_
  obtain ⟨ds, ed, hp⟩ := toR_X hp
  obtain ⟨t, p, vs, e1', hq, da⟩ := den_items dv ed
  exact ⟨t, p, vs, e1', sq_mono r1.sub hq, hp H1 F1 r1 (Same.refl _) _ (wk_seq hq da)⟩
theorem sem_rev {a : Ex} (h : tI K xo mg G Γ W (.rev a) σ H Rj) : RT.iRevA K (tE K xo mg G Γ W a) σ H Rj := by
  obtain ⟨B, F, e, r, h⟩ := h
  have h : PostX K xo mg W B σ F ((evE G Γ a e).bind fun x e1 => toR ((items? x.fz).map List.reverse) e1) (fun ds _ F1 H1 => ∀ J, Wk K xo J F1 ds → Rj J H1) := h
  refine tE_bindX r h (fun x y e q => by rw [q]) fun x e1 v H1 F1 r1 s1 dv hp => ?_
  obtain ⟨ds, ed, hp⟩ := toR_X hp
  have ed : (items? x).map List.reverse = some ds := ed
  cases ei : items? x with
  | none => rw [ei] at ed; cases ed
  | some xs =>
    rw [ei] at ed
    have ed' := Option.some.inj ed
    subst ed'
    obtain ⟨t, p, vs, e1', hq, da⟩ := den_items dv ei
    have q2 := hp H1 F1 r1 (Same.refl _) _ (wk_rev hq da)
    refine ⟨p, vs, e1', ?_⟩
    cases t with
    | true => exact .inr ⟨sqt_mono r1.sub hq, q2⟩
    | false => exact .inl ⟨r1.sub.seq hq, q2⟩
theorem sem_en {a : Ex} (h : tI K xo mg G Γ W (.enum (.seq a)) σ H Rj) : iEn K (tCons (tE K xo mg G Γ W a) tNil) σ H Rj := by
  obtain ⟨B, F, e, r, h⟩ := h
  have h : PostX K xo mg W B σ F ((evE G Γ a e).bind fun x e1 => toR ((items? x.fz).map (enumD 0)) e1) (fun ds _ F1 H1 => ∀ J, Wk K xo J F1 ds → Rj J H1) := by
    have h : PostX K xo mg W B σ F (((evE G Γ a e).bind fun x e1 => toR (items? x.fz) e1).bind fun xs e1 => R.ok (enumD 0 xs) e1) (fun ds _ F1 H1 => ∀ J, Wk K xo J F1 ds → Rj J H1) := h
    cases q : evE G Γ a e with
    | bad => rw [q] at h; exact h
    | exn c ps e => rw [q] at h; exact h
    | ok x e1 =>
      rw [q] at h
      have h : PostX K xo mg W B σ F ((toR (items? x.fz) e1).bind fun xs e1 => R.ok (enumD 0 xs) e1) (fun ds _ F1 H1 => ∀ J, Wk K xo J F1 ds → Rj J H1) := h
      show PostX K xo mg W B σ F (toR ((items? x.fz).map (enumD 0)) e1) _
      cases q2 : items? x.fz with
      | none => rw [q2] at h; exact h
      | some _ => rw [q2] at h; exact h
  refine tE_bindX r h (fun x y e q => by rw [q]) fun x e1 v H1 F1 r1 s1 dv hp => ?_
  obtain ⟨ds, ed, hp⟩ := toR_X hp
  have ed : (items? x).map (enumD 0) = some ds := ed
  cases ei : items? x with
  | none => rw [ei] at ed; cases ed
  | some xs =>
    rw [ei] at ed
    have ed' := Option.some.inj ed
    subst ed'
    obtain ⟨t, p, vs, e1', hq, da⟩ := den_items dv ei
    subst e1'
    exact ⟨p, t, vs, rfl, sq_mono r1.sub hq, hp H1 F1 r1 (Same.refl _) _ (wk_en hq da)⟩
theorem all_items {vs : List V} {xs : List D} (h : DenAll K xo F vs xs) : ∀ {n : Nat}, xs.length = n → vs.length = n := fun e => by rw [h.length, e]
theorem big_lim {i : Int} (h : big i = true) : -(2 ^ 62) ≤ i ∧ i < 2 ^ 62 := by
  unfold big at h
  simp only [Bool.and_eq_true, decide_eq_true_eq] at h
  omega
theorem sem_rng1 {es : Exs} {e0 : Ex} (hes : es = .cons e0 .nil) (h : tI K xo mg G Γ W (.rng es) σ H Rj) : iRng1 (tEs K xo mg G Γ W es) σ H Rj := by
  obtain ⟨B, F, e, r, h⟩ := h
  have h : PostX K xo mg W B σ F ((evEs G Γ es e).bind fun xs e1 => toR (rngD xs) e1) (fun ds _ F1 H1 => ∀ J, Wk K xo J F1 ds → Rj J H1) := h
  have hl : ∀ xs e1, evEs G Γ es e = .ok xs e1 → xs.length = 1 := by
    intro xs e1 q
    rw [hes] at q
    have q : ((evE G Γ e0 e).bind fun x e1 => R.ok (x.fz :: []) e1) = .ok xs e1 := q
    obtain ⟨x, e2, _, q⟩ := bind_ok q
    injection q with q1 q2
    rw [← q1]
    rfl
  refine ⟨B, F, e, r, ?_⟩
  have h2 := bindX h
  cases q : evEs G Γ es e with
  | bad => rw [q] at h2; exact h2
  | exn c ps e => rw [q] at h2; exact h2
  | ok xs e1 =>
    rw [q] at h2
    have h1 := hl xs e1 q
    refine fun H1 F1 r1 s1 vs dv => ?_
    have hp := h2 H1 F1 r1 s1
    obtain ⟨ds, ed, hp⟩ := toR_X hp
    match xs, h1, dv, ed with
    | [x], _, dv, ed =>
      cases dv with
      | cons d1 dr =>
        cases dr
        cases d1 with
        | int j =>
          have ed : (if big j then some (rngI 0 j.toNat) else none) = some ds := ed
          by_cases hb : big j = true
          · rw [if_pos hb] at ed
            have ed' := Option.some.inj ed
            subst ed'
            obtain ⟨b1, b2⟩ := big_lim hb
            exact ⟨j, rfl, b1, b2, hp H1 F1 r1 (Same.refl _) _ (wk_rng 0 _)⟩
          · rw [if_neg hb] at ed; cases ed
        | non => cases ed
        | bl _ => cases ed
        | str _ => cases ed
        | lst _ _ => cases ed
        | tup _ _ => cases ed
        | scr _ _ => cases ed
        | exc0 _ _ => cases ed
        | exc1 _ _ _ _ => cases ed
        | dic0 _ => cases ed
theorem sem_rng2 {es : Exs} {e0 e2 : Ex} (hes : es = .cons e0 (.cons e2 .nil)) (h : tI K xo mg G Γ W (.rng es) σ H Rj) : iRng2 (tEs K xo mg G Γ W es) σ H Rj := by
  obtain ⟨B, F, e, r, h⟩ := h
  have h : PostX K xo mg W B σ F ((evEs G Γ es e).bind fun xs e1 => toR (rngD xs) e1) (fun ds _ F1 H1 => ∀ J, Wk K xo J F1 ds → Rj J H1) := h
  have hl : ∀ xs e1, evEs G Γ es e = .ok xs e1 → xs.length = 2 := by
    intro xs e1 q
    rw [hes] at q
    have q : ((evE G Γ e0 e).bind fun x e1 => (((evE G Γ e2 e1).bind fun y e3 => R.ok (y.fz :: []) e3)).bind fun xs e3 => R.ok (x.fz :: xs) e3) = .ok xs e1 := q
    obtain ⟨x, e3, _, q⟩ := bind_ok q
    obtain ⟨ys, e4, q0, q⟩ := bind_ok q
    obtain ⟨y, e5, _, q0⟩ := bind_ok q0
    injection q0 with q1 q2
    injection q with q3 q4
    rw [← q3, ← q1]
    rfl
  refine ⟨B, F, e, r, ?_⟩
  have h2 := bindX h
  cases q : evEs G Γ es e with
  | bad => rw [q] at h2; exact h2
  | exn c ps e => rw [q] at h2; exact h2
  | ok xs e1 =>
    rw [q] at h2
    have h1 := hl xs e1 q
    refine fun H1 F1 r1 s1 vs dv => ?_
    have hp := h2 H1 F1 r1 s1
    obtain ⟨ds, ed, hp⟩ := toR_X hp
    match xs, h1, dv, ed with
    | [x, y], _, dv, ed =>
      cases dv with
      | cons d1 dr =>
        cases dr with
        | cons d2 dr =>
          cases dr
          have fin : ∀ i j : Int, x = .int i → y = .int j → rngD [x, y] = some ds → big i = true ∧ big j = true ∧ ds = rngI i (j - i).toNat := by
            intro i j ex ey ed
            subst ex ey
            have ed : (if (big i && big j) = true then some (rngI i (j - i).toNat) else none) = some ds := ed
            by_cases hb : (big i && big j) = true
            · rw [if_pos hb] at ed
              rw [Bool.and_eq_true] at hb
              exact ⟨hb.1, hb.2, (Option.some.inj ed).symm⟩
            · rw [if_neg hb] at ed; cases ed
          have hij : (∃ i j, x = .int i ∧ y = .int j) := by
            cases x with
            | int i => cases y with
              | int j => exact ⟨i, j, rfl, rfl⟩
              | _ => cases ed
            | _ => cases ed
          obtain ⟨i, j, ex, ey⟩ := hij
          obtain ⟨b1, b2, b3⟩ := fin i j ex ey ed
          subst ex ey b3
          cases d1
          cases d2
          obtain ⟨c1, c2⟩ := big_lim b1
          obtain ⟨c3, c4⟩ := big_lim b2
          exact ⟨i, j, rfl, ⟨c1, c2, c3, c4⟩, hp H1 F1 r1 (Same.refl _) _ (wk_rng i _)⟩
theorem sem_z2 {st : Bool} {es : Exs} {e0 e2 : Ex} (hes : es = .cons e0 (.cons e2 .nil)) (h : tI K xo mg G Γ W (.zip st es) σ H Rj) : iZ2 K st (tEs K xo mg G Γ W es) σ H Rj := by
  obtain ⟨B, F, e, r, h⟩ := h
  have h : PostX K xo mg W B σ F ((evEs G Γ es e).bind fun xs e1 => toR (zipD st xs) e1) (fun ds _ F1 H1 => ∀ J, Wk K xo J F1 ds → Rj J H1) := h
  have hl : ∀ xs e1, evEs G Γ es e = .ok xs e1 → xs.length = 2 := by
    intro xs e1 q
    rw [hes] at q
    have q : ((evE G Γ e0 e).bind fun x e1 => (((evE G Γ e2 e1).bind fun y e3 => R.ok (y.fz :: []) e3)).bind fun xs e3 => R.ok (x.fz :: xs) e3) = .ok xs e1 := q
    obtain ⟨x, e3, _, q⟩ := bind_ok q
    obtain ⟨ys, e4, q0, q⟩ := bind_ok q
    obtain ⟨y, e5, _, q0⟩ := bind_ok q0
    injection q0 with q1 q2
    injection q with q3 q4
    rw [← q3, ← q1]
    rfl
  refine ⟨B, F, e, r, ?_⟩
  have h2 := bindX h
  cases q : evEs G Γ es e with
  | bad => rw [q] at h2; exact h2
  | exn c ps e => rw [q] at h2; exact h2
  | ok xs e1 =>
    rw [q] at h2
    have h1 := hl xs e1 q
    refine fun H1 F1 r1 s1 vs dv => ?_
    have hp := h2 H1 F1 r1 s1
    obtain ⟨ds, ed, hp⟩ := toR_X hp
    match xs, h1, dv, ed with
    | [x, y], _, dv, ed =>
      cases dv with
      | cons d1 dr =>
        cases dr with
        | cons d2 dr =>
          cases dr
          cases ex : items? x with
          | none => unfold zipD at ed; simp only [List.map_cons, List.map_nil, ex] at ed; cases ed
          | some us =>
            cases ey : items? y with
            | none => unfold zipD at ed; simp only [List.map_cons, List.map_nil, ex, ey] at ed; cases ed
            | some ws =>
              have ed : (if st = true → us.length = ws.length then some (zipAll [us, ws]) else none) = some ds := by
                unfold zipD at ed
                simp only [List.map_cons, List.map_nil, ex, ey] at ed
                exact ed
              by_cases hs : st = true → us.length = ws.length
              · rw [if_pos hs] at ed
                have ed' := Option.some.inj ed
                subst ed'
                obtain ⟨t1, p1, vs1, e1', hq1, da1⟩ := den_items d1 ex
                obtain ⟨t2, p2, vs2, e2', hq2, da2⟩ := den_items d2 ey
                subst e1' e2'
                exact ⟨p1, p2, t1, t2, vs1, vs2, rfl, sq_mono r1.sub hq1, sq_mono r1.sub hq2, hp H1 F1 r1 (Same.refl _) _ (wk_z2 hq1 hq2 da1 da2 hs)⟩
              · rw [if_neg hs] at ed; cases ed
theorem sem_z3 {st : Bool} {es : Exs} {e0 e2 e3 : Ex} (hes : es = .cons e0 (.cons e2 (.cons e3 .nil))) (h : tI K xo mg G Γ W (.zip st es) σ H Rj) : iZ3 K st (tEs K xo mg G Γ W es) σ H Rj := by
  obtain ⟨B, F, e, r, h⟩ := h
  have h : PostX K xo mg W B σ F ((evEs G Γ es e).bind fun xs e1 => toR (zipD st xs) e1) (fun ds _ F1 H1 => ∀ J, Wk K xo J F1 ds → Rj J H1) := h
  have hl : ∀ xs e1, evEs G Γ es e = .ok xs e1 → xs.length = 3 := by
    intro xs e1 q
    rw [hes] at q
    have q : ((evE G Γ e0 e).bind fun x e1 => (((evE G Γ e2 e1).bind fun y e3' => (((evE G Γ e3 e3').bind fun z e4 => R.ok (z.fz :: []) e4)).bind fun zs e4 => R.ok (y.fz :: zs) e4)).bind fun xs e3 => R.ok (x.fz :: xs) e3) = .ok xs e1 := q
    obtain ⟨x, e3, _, q⟩ := bind_ok q
    obtain ⟨ys, e4, q0, q⟩ := bind_ok q
    obtain ⟨y, e5, _, q0⟩ := bind_ok q0
    obtain ⟨zs, e6, q00, q0⟩ := bind_ok q0
    obtain ⟨z, e7, _, q00⟩ := bind_ok q00
    injection q00 with q1 q2
    injection q0 with q3 q4
    injection q with q5 q6
    rw [← q5, ← q3, ← q1]
    rfl
  refine ⟨B, F, e, r, ?_⟩
  have h2 := bindX h
  cases q : evEs G Γ es e with
  | bad => rw [q] at h2; exact h2
  | exn c ps e => rw [q] at h2; exact h2
  | ok xs e1 =>
    rw [q] at h2
    have h1 := hl xs e1 q
    refine fun H1 F1 r1 s1 vs dv => ?_
    have hp := h2 H1 F1 r1 s1
    obtain ⟨ds, ed, hp⟩ := toR_X hp
    match xs, h1, dv, ed with
    | [x, y, z], _, dv, ed =>
      cases dv with
      | cons d1 dr =>
        cases dr with
        | cons d2 dr =>
          cases dr with
          | cons d3 dr =>
            cases dr
            cases ex : items? x with
            | none => unfold zipD at ed; simp only [List.map_cons, List.map_nil, ex] at ed; cases ed
            | some us =>
              cases ey : items? y with
              | none => unfold zipD at ed; simp only [List.map_cons, List.map_nil, ex, ey] at ed; cases ed
              | some ws =>
                cases ez : items? z with
                | none => unfold zipD at ed; simp only [List.map_cons, List.map_nil, ex, ey, ez] at ed; cases ed
                | some ts =>
                  have ed : (if st = true → us.length = ws.length ∧ us.length = ts.length then some (zipAll [us, ws, ts]) else none) = some ds := by
                    unfold zipD at ed
                    simp only [List.map_cons, List.map_nil, ex, ey, ez] at ed
                    exact ed
                  by_cases hs : st = true → us.length = ws.length ∧ us.length = ts.length
                  · rw [if_pos hs] at ed
                    have ed' := Option.some.inj ed
                    subst ed'
                    obtain ⟨t1, p1, vs1, e1', hq1, da1⟩ := den_items d1 ex
                    obtain ⟨t2, p2, vs2, e2', hq2, da2⟩ := den_items d2 ey
                    obtain ⟨t3, p3, vs3, e3', hq3, da3⟩ := den_items d3 ez
                    subst e1' e2' e3'
                    exact ⟨p1, p2, p3, t1, t2, t3, vs1, vs2, vs3, rfl, sq_mono r1.sub hq1, sq_mono r1.sub hq2, sq_mono r1.sub hq3, hp H1 F1 r1 (Same.refl _) _ (wk_z3 hq1 hq2 hq3 da1 da2 da3 hs)⟩
                  · rw [if_neg hs] at ed; cases ed
theorem tEs_mono {es : Exs} {A B : List V → Hp → Prop} (m : ∀ vs H, A vs H → B vs H) (h : tEs K xo mg G Γ W es σ H A) : tEs K xo mg G Γ W es σ H B := by
  obtain ⟨B0, F, e, r, h⟩ := h
  exact ⟨B0, F, e, r, PostX.imp h fun a e F1 H1 _ _ z vs dv => m _ _ (z vs dv)⟩
theorem callee_es {es : Exs} {sp1 sp0 : Sp} {dvs : List V} {E : L2.St → XK} {Q : VK} (m : ∀ vs H Q E, sp1 vs H Q E → sp0 (vs ++ dvs) H Q E) (h : tCallSD sp1 [] E (tEs K xo mg G Γ W es) σ H Q) : tCallSD sp0 dvs E (tEs K xo mg G Γ W es) σ H Q :=
  tEs_mono (fun vs H1 z => m _ _ _ _ (by rw [List.append_nil] at z; exact z)) h
theorem callee_own {i : Nat} {es : Exs} {sp1 sp0 : Sp} {dvs : List V} {E : L2.St → XK} {Q : VK} (m : ∀ vs H Q E, sp1 vs H Q E → sp0 (vs ++ dvs) H Q E) (h : tCallSD sp1 [] E (tCons (tVar i) (tEs K xo mg G Γ W es)) σ H Q) : tCallSD sp0 dvs E (tCons (tVar i) (tEs K xo mg G Γ W es)) σ H Q := by
  obtain ⟨v, hv, h⟩ := h
  exact ⟨v, hv, tEs_mono (fun vs H1 z => m _ _ _ _ (by
    have z : sp1 ((v :: vs) ++ []) H1 Q (E σ) := z
    rw [List.append_nil] at z
    exact z)) h⟩
theorem sem_callk {k : Nat} {es : Exs} {a : Ex} {f : Fn} (hf : Γ[k]? = some f) {m : Nat} (hm : m + 1 = f.np) (h : tE K xo mg G Γ W (.callk k es a) σ H Q) : tCallN m 1 (spFn K xo mg f) (fun vs zs => vs ++ zs) (WE W σ) (tEs K xo mg G Γ W es) (tCons (tE K xo mg G Γ W a) tNil) σ H Q := by
  obtain ⟨B, F, e, r, h⟩ := h
  have h : PostE K xo mg W B σ F ((evEs G Γ es e).bind fun xs e1 => (evE G Γ a e1).bind fun y e2 => match Γ[k]? with
    | some f => if f.own = false ∧ f.np = xs.length + 1 then (match f.run [] (xs ++ [y.fz]) with
      | .ret v _ => R.ok v e2
      | .exn c ps _ => R.exn c ps e2
      | .bad => R.bad) else R.bad
    | none => R.bad) Q := h
  refine ⟨B, F, e, r, PostX.imp (bindXE h) fun xs e1 F1 H1 r1 s1 hp vs dv => ?_⟩
  refine tE_bind r1 hp (fun x y e q => by rw [q]) fun y e2 v H2 F2 r2 s2 dy hp => ?_
  rw [hf] at hp
  have hp : PostE K xo mg W B σ F2 (if f.own = false ∧ f.np = xs.length + 1 then (match f.run [] (xs ++ [y]) with
      | .ret v _ => R.ok v e2
      | .exn c ps _ => R.exn c ps e2
      | .bad => R.bad) else R.bad) Q := hp
  by_cases hc : f.own = false ∧ f.np = xs.length + 1
  rotate_left
  · rw [if_neg hc] at hp; exact hp.elim
  rw [if_pos hc] at hp
  have lx := dv.length
  have dv2 := (dv.mono s2).append (.cons dy .nil)
  refine ⟨by omega, rfl, by rw [List.length_append, lx]; exact hc.2.symm, r2.tabs.t, F2, ⟨r2.sub, r2.tabs.nt⟩, .inl ⟨hc.1, xs ++ [y], dv2, ?_⟩⟩
  have dv := dv2
  cases hr : f.run [] (xs ++ [y]) with
  | bad => rw [hr] at hp; exact hp.elim
  | exn c ps o' =>
    rw [hr] at hp
    exact fun cls dx H' F' fin x => hp cls dx H' F' (r2.called fin) fin.subF x
  | ret v o' =>
    rw [hr] at hp
    cases v with
    | d d => exact fun v H' F' fin dn => hp v H' F' (r2.called fin) fin.subF dn
    | fr ds => exact fun p ws H' F' fin hp1 hF2 da h0 => hp p ws H' F' (r2.called fin) fin.subF hp1 hF2 da (.inl (r2.h0 h0)) fun i pp es q => r2.ownNe h0 i pp es q
theorem callee_k {m : Nat} {es : Exs} {a : Ex} {sp1 sp0 : Sp} {gV : List V → List V → List V} {E : XK} {Q : VK} (h : ∀ vs H Q E, sp1 vs H Q E → sp0 vs H Q E) (q : tCallN m 1 sp1 gV E (tEs K xo mg G Γ W es) (tCons (tE K xo mg G Γ W a) tNil) σ H Q) : tCallN m 1 sp0 gV E (tEs K xo mg G Γ W es) (tCons (tE K xo mg G Γ W a) tNil) σ H Q :=
  tEs_mono (fun vs H1 z => tE_mono z fun x H2 z => ⟨z.1, z.2.1, h _ _ _ _ z.2.2⟩) q
end
section
variable {X : Cx} {CX : CXT} {k n : Nat} {f : Addr} {fd : FuncData} {ps ks : List Str} {sp : Sp} {E : L2.St → XK} {x : Str} {p pos : Pos} {e : Expr} {es : List Expr} {kws : List Keyword} {t tk : TA} {g : List Value → List Value → List Value} {gV : List V → List V → List V}
theorem pe_callND (F : FnOk X.prog X.w X.K X.mg X.base CX k f fd ps sp) (hr : Room k X.A) (hg : Gl X x) (hm : X.mg x = some (.ref f)) (hk : PySem.W.keepIn X.K (.ref f) = true) (hb : KBn X.K fd ps n ks g gV) (hx : ∀ σ, PassesAt CX X σ (E σ))
    (ha : PA X (e :: es) t) (hkw : PK X kws tk) (hall : (backToKw pos (keywordEach kws X.env)).all (·.1.isSome) = true) (hks : (backToKw pos (keywordEach kws X.env)).filterMap (·.1) = ks)
    (hdb : (x == ("__debug__" : Str)) = false) (he : starEach (e :: es) X.env = (false, eval e X.env) :: starEach es X.env)
    (hpl : ((backTo pos (starEach (e :: es) X.env)).any (·.1) || (backToKw pos (keywordEach kws X.env)).any (·.1.isNone)) = false) :
    PE X (.Call (.Name x p) (e :: es) kws pos) (fun σ H Q => tCallN n ks.length sp gV (E σ) t tk σ H Q) := by
  refine ⟨fun pins s σ H Q I h => ?_⟩
  refine wpAny_Call_Name_kw (ld_glob I hg hm ?_ hdb)
  refine PySem.W.callWith_KW (h₀ := X.base) I.ok.mod.kin hk hall (thn (ha.run pos pins s σ H _ I h) fun us s1 ⟨vs, H1, I1, r, q⟩ => ?_) hpl he
  refine thn (hkw.run pos pins s1 σ H1 _ I1 q) fun ws s2 ⟨zs, H2, I2, rz, l1, l2, q2⟩ => ⟨I2.kIn, ?_⟩
  rw [hks]
  have r2 := hb.rel r rz
  refine wpAny_call (codeAny_mono (F.run X.A X.stack s2 H2 ⟨us, ks.zip ws⟩ (g us ws) (gV vs zs) Q (E σ) hr I2.env0 (hb.to s2 us ws I2.kIn (r.length.symm.trans l1) (rz.length.symm.trans l2)) r2 q2) fun r s' hq => ?_)
  cases r with
  | error e => exact hx σ pins H2 s2 e s' I2 hq
  | ok fl =>
    cases fl with
    | ret u => exact I2.after hq
    | next => exact False.elim hq
    | brk => exact False.elim hq
    | cont => exact False.elim hq
end
end DL


set_option Elab.async false
set_option linter.all false
set_option maxRecDepth 100000
set_option maxHeartbeats 2000000
/-! DLY1: a strict zip of two whose told tuples are kept. -/
namespace DL
open PySem PySem.Spec PyProof.Rows L2
open PySem.Builtin.SmallTypes (nextOf nextOrEnd)
/-- the tuple told last is still there -/
abbrev ZipH (h : Heap) (z TI TO T : Addr) (f : Bool) : Prop :=
  h.get? z = some { cls := .type "zip", dict := none, data := .fields #[rawInt T, .bool f, .bool true, .ref TI, .ref TO], slots := #[] }
structure Z2H (h : Heap) (n : Nat) (t1 t2 : Bool) (l1 l2 : Nat) (i : Nat) (T : Addr) : Prop where
  z : ∃ f, ZipH h (n + 4) (n + 2) (n + 3) T f
  al : ∃ o, h.get? T = some o
  ne : T ≠ n ∧ T ≠ n + 1 ∧ T ≠ n + 4
  ti : TupO h (n + 2) #[.ref n, .ref (n + 1)]
  i1 : SIt h t1 n l1 i
  i2 : SIt h t2 (n + 1) l2 i
section
variable {prog : Program} {w : World} {A : Around} {E : Value → Shared → Prop} {s : Shared} {n l1 l2 : Nat} {t1 t2 : Bool} {i : Nat} {xs ys : Array Value} {T : Addr}
theorem heldZ {z TI TO T : Addr} {f : Bool} {oT : Obj} {Q : Bool → Shared → Prop} (hz : ZipH s.heap z TI TO T f) (hT : s.heap.get? T = some oT)
    (h : ∀ h', ZipH h' z TI TO T true → Heap.SameBut z s.heap h' → Q false { s with heap := h' }) : wpAny (model prog w) A (Builtin.SmallTypes.ownedTupleIsFree (.ref z)) Q E s := by
  unfold Builtin.SmallTypes.ownedTupleIsFree
  refine wpAny_bind (wpAny_field hz rfl (x := rawInt T) rfl ?_)
  show wpAny _ _ (loadIfAlive ((T : Int).toNat) >>= _) _ _ _
  rw [Int.toNat_natCast]
  refine wpAny_bind (PySem.W.kdx_alive hT ?_)
  simp only [Option.isNone_some, Bool.false_eq_true, if_false]
  refine wpAny_bind (wpAny_field hz rfl (x := .bool f) rfl ?_)
  cases f with
  | true =>
    rw [if_neg (show ¬ ((Value.bool true != Value.bool true) = true) from Bool.false_ne_true)]
    exact wpAny_pure (h s.heap hz (Heap.SameBut.refl _ _))
  | false =>
    rw [if_pos (show (Value.bool false != Value.bool true) = true from rfl)]
    exact wpAny_bind (wpAny_setField_rec hz (by simp) fun h₁ hz₁ hs₁ => wpAny_pure (h h₁ hz₁ hs₁))
theorem z2h_item {x y : Value} {Q : Value → Shared → Prop} (D : Z2H s.heap n t1 t2 l1 l2 i T) (n1 : l1 < n) (n2 : l2 < n) (o1 : SOb s.heap t1 l1 xs) (o2 : SOb s.heap t2 l2 ys) (hx : xs[i]? = some x) (hy : ys[i]? = some y)
    (hQ : ∀ h', Z2H h' n t1 t2 l1 l2 (i + 1) T → TupO h' s.heap.objs.size #[x, y] →
      h'.objs.size = s.heap.objs.size + 1 → (∀ b o, b ∉ [n, n + 1, n + 2, n + 3, n + 4] → s.heap.get? b = some o → h'.get? b = some o) → Q (.ref s.heap.objs.size) { s with heap := h' }) :
    wpAny (model prog w) A (Builtin.«zip.__next__» ⟨[.ref (n + 4)], []⟩) (fun fin s' => ∃ v, fin = .done (.ret v) ∧ Q v s') E s := by
  obtain ⟨⟨f, hz⟩, ⟨oT, hT⟩, hne, hti, hi1, hi2⟩ := D
  refine (show wpAny _ _ (field (.ref (n + 4)) 2 >>= _) _ _ _ from wpAny_bind (wpAny_field hz rfl (x := .bool true) rfl ?_))
  refine (show wpAny _ _ (field (.ref (n + 4)) 3 >>= _) _ _ _ from wpAny_bind (wpAny_field hz rfl (x := .ref (n + 2)) rfl ?_))
  refine wpAny_bind (wpAny_seqItems hti rfl ?_)
  refine (show wpAny _ _ (Builtin.SmallTypes.ownedTupleIsFree (.ref (n + 4)) >>= _) _ _ _ from wpAny_bind (heldZ hz hT fun h1 hz1 s1 => ?_))
  simp only [Bool.false_eq_true, if_false]
  refine wpAny_bind ?_
  rw [← Array.forIn_toList]
  simp only [List.forIn_cons, List.forIn_nil]
  have k1 : ∀ (c : Nat) o, c ≠ (n + 4) → s.heap.get? c = some o → h1.get? c = some o := fun c o q e => s1.extBut c o q e
  have a0 : SIt h1 t1 n l1 i := hi1.at fun o q => k1 n o (by omega) q
  have b0 : SOb h1 t1 l1 xs := o1.at fun o q => k1 l1 o (by omega) q
  refine wpAny_bind (wpAny_bind (wpAny_holding ?_))
  refine (show wpAny _ _ (nextOrEnd (.ref n)) _ _ _ from nextS' (s := { s with heap := h1 }) a0 b0 hx fun h2 g0 s2 => ?_)
  refine wpAny_pure ?_
  have k2 : ∀ (c : Nat) o, c ≠ (n + 4) → c ≠ n → s.heap.get? c = some o → h2.get? c = some o := fun c o q0 q1 e => s2.extBut c o q1 (k1 c o q0 e)
  have a1 : SIt h2 t2 (n + 1) l2 i := hi2.at fun o q => k2 (n + 1) o (by omega) (by omega) q
  have b1 : SOb h2 t2 l2 ys := o2.at fun o q => k2 l2 o (by omega) (by omega) q
  refine wpAny_bind (wpAny_bind (wpAny_holding ?_))
  refine (show wpAny _ _ (nextOrEnd (.ref (n + 1))) _ _ _ from nextS' (s := { s with heap := h2 }) a1 b1 hy fun h3 g1 s3 => ?_)
  refine wpAny_pure (wpAny_pure ?_)
  refine (show wpAny _ _ (newTuple [x, y] >>= _) _ _ _ from wpAny_bind (wpAny_newTuple ?_))
  have hsz : h3.objs.size = s.heap.objs.size := by rw [s3.1, s2.1, s1.1]
  have k3 : ∀ (c : Nat) o, c ≠ (n + 4) → c ≠ n → c ≠ (n + 1) → s.heap.get? c = some o → h3.get? c = some o := fun c o q0 q1 q2 e => s3.extBut c o q2 (k2 c o q0 q1 e)
  have z3 : ZipH h3 (n + 4) (n + 2) (n + 3) T true := s3.extBut (n + 4) _ (show (n + 4) ≠ (n + 1) by omega) (s2.extBut (n + 4) _ (show (n + 4) ≠ n by omega) hz1)
  have j1 : SIt h3 t1 n l1 (i + 1) := g0.at fun o q => s3.extBut n _ (show n ≠ (n + 1) by omega) q
  have hA : h3.get? T = some oT := k3 T oT hne.2.2 hne.1 hne.2.1 hT
  refine wpAny_pure ⟨_, rfl, ?_⟩
  show Q (.ref h3.objs.size) _
  have hp : TupO (h3.push { cls := .type "tuple", data := .seq #[x, y] }) h3.objs.size #[x, y] := Heap.get?_push_size _ rfl
  have hz4 : (h3.push { cls := .type "tuple", data := .seq #[x, y] }).objs.size = h3.objs.size + 1 := Heap.size_push ..
  have up : ∀ {c : Addr} {u : Obj}, h3.get? c = some u → (h3.push { cls := .type "tuple", data := .seq #[x, y] }).get? c = some u := fun q => Heap.get?_push_of_some _ q
  rw [hsz] at hp hz4 ⊢
  exact hQ _ ⟨⟨true, up z3⟩, ⟨oT, up hA⟩, hne, up (k3 (n + 2) _ (by omega) (by omega) (by omega) hti), j1.at fun o q => up q, g1.at fun o q => up q⟩ hp hz4 fun c o hc e => up (by
    simp only [List.mem_cons, List.mem_nil_iff, or_false, not_or] at hc
    exact k3 c o hc.2.2.2.2 hc.1 hc.2.1 e)
theorem z2h_end {Q : Fin → Shared → Prop} (hh : A.handled = none) (D : Z2H s.heap n t1 t2 l1 l2 i T) (n1 : l1 < n) (n2 : l2 < n) (o1 : SOb s.heap t1 l1 xs) (o2 : SOb s.heap t2 l2 ys) (e1 : xs[i]? = none) (e2 : ys[i]? = none)
    (hE : ∀ h' e, (∀ b o, b ∉ [n, n + 1, n + 2, n + 3, n + 4] → s.heap.get? b = some o → h'.get? b = some o) → (∃ o, h'.get? e = some o ∧ o.cls = .type "StopIteration") → E (.ref e) { s with heap := h' }) :
    wpAny (model prog w) A (Builtin.«zip.__next__» ⟨[.ref (n + 4)], []⟩) Q E s := by
  obtain ⟨⟨f, hz⟩, ⟨oT, hT⟩, hne, hti, hi1, hi2⟩ := D
  refine (show wpAny _ _ (field (.ref (n + 4)) 2 >>= _) _ _ _ from wpAny_bind (wpAny_field hz rfl (x := .bool true) rfl ?_))
  refine (show wpAny _ _ (field (.ref (n + 4)) 3 >>= _) _ _ _ from wpAny_bind (wpAny_field hz rfl (x := .ref (n + 2)) rfl ?_))
  refine wpAny_bind (wpAny_seqItems hti rfl ?_)
  refine (show wpAny _ _ (Builtin.SmallTypes.ownedTupleIsFree (.ref (n + 4)) >>= _) _ _ _ from wpAny_bind (heldZ hz hT fun h1 hz1 s1 => ?_))
  simp only [Bool.false_eq_true, if_false]
  refine wpAny_bind ?_
  rw [← Array.forIn_toList]
  simp only [List.forIn_cons, List.forIn_nil]
  have k1 : ∀ (c : Nat) o, c ≠ (n + 4) → s.heap.get? c = some o → h1.get? c = some o := fun c o q e => s1.extBut c o q e
  have a0 : SIt h1 t1 n l1 i := hi1.at fun o q => k1 n o (by omega) q
  have b0 : SOb h1 t1 l1 xs := o1.at fun o q => k1 l1 o (by omega) q
  refine wpAny_bind (wpAny_bind (wpAny_holding ?_))
  refine (show wpAny _ _ (nextOrEnd (.ref n)) _ _ _ from nextE' (s := { s with heap := h1 }) hh a0 b0 e1 fun h2 s2 => ?_)
  have k2 : ∀ (c : Nat) o, c ≠ (n + 4) → c ≠ n → s.heap.get? c = some o → h2.get? c = some o := fun c o q0 q1 e => s2 c o q1 (k1 c o q0 e)
  refine wpAny_bind ?_
  refine wpAny_bind ?_
  simp only [List.drop_succ_cons, List.drop_zero, List.zipIdx_cons, List.zipIdx_nil, List.forIn_cons, List.forIn_nil]
  have a1 : SIt h2 t2 (n + 1) l2 i := hi2.at fun o q => k2 (n + 1) o (by omega) (by omega) q
  have b1 : SOb h2 t2 l2 ys := o2.at fun o q => k2 l2 o (by omega) (by omega) q
  refine wpAny_bind (show wpAny _ _ (nextOrEnd (.ref (n + 1)) >>= _) _ _ _ from wpAny_bind (nextE' (s := { s with heap := h2 }) hh a1 b1 e2 fun h4 s4 => ?_))
  simp only [Option.isSome_none, Bool.false_eq_true, if_false]
  refine wpAny_pure ?_
  have k4 : ∀ (c : Nat) o, c ≠ (n + 4) → c ≠ n → c ≠ (n + 1) → s.heap.get? c = some o → h4.get? c = some o := fun c o q0 q1 q2 e => s4 c o q2 (k2 c o q0 q1 e)
  refine wpAny_pure (wpAny_bind (wpAny_rule (stopS hh fun hB e sB he => hE hB e (fun c o hc q => ?_) he)))
  simp only [List.mem_cons, List.mem_nil_iff, or_false, not_or] at hc
  exact sB c o (k4 c o hc.2.2.2.2 hc.1 hc.2.1 q)
/-- a strict zip at turn i, its tuples kept -/
def ZK (h : Heap) (n : Nat) (t1 t2 : Bool) (l1 l2 i : Nat) : Prop := Z2 h n true t1 t2 l1 l2 i ∨ ∃ T, Z2H h n t1 t2 l1 l2 i T
theorem ZK.at {h h' : Heap} (D : ZK h n t1 t2 l1 l2 i) (k : ∀ b o, h.get? b = some o → h'.get? b = some o) : ZK h' n t1 t2 l1 l2 i := by
  rcases D with ⟨a, b, ⟨x, y, c⟩, d, e⟩ | ⟨T, ⟨f, z⟩, ⟨o, al⟩, ne, ti, i1, i2⟩
  · exact .inl ⟨k _ _ a, k _ _ b, ⟨x, y, k _ _ c⟩, d.at fun o q => k _ o q, e.at fun o q => k _ o q⟩
  · exact .inr ⟨T, ⟨f, k _ _ z⟩, ⟨o, k _ _ al⟩, ne, k _ _ ti, i1.at fun o q => k _ o q, i2.at fun o q => k _ o q⟩
theorem ZK.lt (D : ZK s.heap n t1 t2 l1 l2 i) : n + 4 < s.heap.objs.size := by
  rcases D with D | ⟨T, D⟩
  · exact Heap.lt_size D.z
  · obtain ⟨f, z⟩ := D.z
    exact Heap.lt_size z
theorem ZK.typ (D : ZK s.heap n t1 t2 l1 l2 i) : s.TypeIs (.ref (n + 4)) "zip" := by
  rcases D with D | ⟨T, D⟩
  · exact ⟨_, D.z, rfl⟩
  · obtain ⟨f, z⟩ := D.z
    exact ⟨_, z, rfl⟩
theorem zk_next {x y : Value} {Q : Option Value → Shared → Prop} (D : ZK s.heap n t1 t2 l1 l2 i) (n1 : l1 < n) (n2 : l2 < n) (o1 : SOb s.heap t1 l1 xs) (o2 : SOb s.heap t2 l2 ys) (hx : xs[i]? = some x) (hy : ys[i]? = some y)
    (hQ : ∀ h', ZK h' n t1 t2 l1 l2 (i + 1) → TupO h' s.heap.objs.size #[x, y] → h'.objs.size = s.heap.objs.size + 1 → (∀ b o, b ∉ [n, n + 1, n + 2, n + 3, n + 4] → s.heap.get? b = some o → h'.get? b = some o) → Q (some (.ref s.heap.objs.size)) { s with heap := h' }) : wpAny (model prog w) A (pyNext (.ref (n + 4))) Q E s := by
  have lt := D.lt
  have hT := D.typ
  have ne3 : s.heap.objs.size ≠ n ∧ s.heap.objs.size ≠ n + 1 ∧ s.heap.objs.size ≠ n + 4 := ⟨by omega, by omega, by omega⟩
  rcases D with D | ⟨T, D⟩
  · exact z2_next D n1 n2 o1 o2 hx hy fun h' a b c d0 d1 e f g => hQ h' (.inr ⟨s.heap.objs.size, ⟨false, a⟩, ⟨_, e⟩, ne3, b, d0, d1⟩) e f g
  · unfold pyNext
    refine wpAny_bind (wpAny_attempt (wpAny_callSpecial?_slot (name := Str.ofString "__next__") hT F.slot_zip_next (wpAny_call_entry F.slot_zip_next hT F.entry_zip_next ?_ (F.args_zip_next_1 _))))
    exact z2h_item D n1 n2 o1 o2 hx hy fun h' a b c d => wpAny_pure (hQ h' (.inr ⟨T, a⟩) b c d)
theorem zk_stop {Q : Option Value → Shared → Prop} (hh : A.handled = none) (D : ZK s.heap n t1 t2 l1 l2 i) (n1 : l1 < n) (n2 : l2 < n) (o1 : SOb s.heap t1 l1 xs) (o2 : SOb s.heap t2 l2 ys) (e1 : xs[i]? = none) (e2 : ys[i]? = none)
    (hQ : ∀ h', (∀ b o, b ∉ [n, n + 1, n + 2, n + 3, n + 4] → s.heap.get? b = some o → h'.get? b = some o) → Q none { s with heap := h' }) : wpAny (model prog w) A (pyNext (.ref (n + 4))) Q E s := by
  have hT := D.typ
  rcases D with D | ⟨T, D⟩
  · exact z2_stop hh D n1 n2 o1 o2 (st := true) ⟨e1, e2⟩ hQ
  · have fin : ∀ h' e, (∀ b o, b ∉ [n, n + 1, n + 2, n + 3, n + 4] → s.heap.get? b = some o → h'.get? b = some o) → (∃ o, h'.get? e = some o ∧ o.cls = .type "StopIteration") →
        wpAny (model prog w) A (do if ← isInstance (.ref e) (.type "StopIteration") then pure none else throw (.ref e)) Q E { s with heap := h' } := fun h' e k he => by
      obtain ⟨o, ho, hc⟩ := he
      exact wpAny_bind (wpAny_isInstance (T := "StopIteration") (b := true) ⟨o, ho, hc⟩ isSubtype_stop (wpAny_pure (hQ _ k)))
    unfold pyNext
    refine wpAny_bind (wpAny_attempt (wpAny_callSpecial?_slot (name := Str.ofString "__next__") hT F.slot_zip_next (wpAny_call_entry F.slot_zip_next hT F.entry_zip_next ?_ (F.args_zip_next_1 _))))
    exact z2h_end hh D n1 n2 o1 o2 e1 e2 fun h' e k he => fin h' e k he
end
end DL


set_option Elab.async false
set_option linter.all false
set_option maxRecDepth 100000
set_option maxHeartbeats 2000000
/-! DLY2: list(zip(xs, ys, strict=True)). -/
namespace DL
open PySem PySem.Spec PyProof.Rows L2
theorem zip_no_len : typeLookup (.type "zip") "__len__" = pure none := by rw [typeLookup_type, builtinLookup_eq_fast]; kernel_rfl
theorem zip_no_hint : typeLookup (.type "zip") "__length_hint__" = pure none := by rw [typeLookup_type, builtinLookup_eq_fast]; kernel_rfl
/-- the tuples one by one, then the list of them -/
def zlQ (S : Addr) (Q : VK) : List (V × V) → List V → Hp → Prop
  | [], acc, H => Q (.ref S) (upd H S (.lst acc))
  | p :: r, acc, H => ∀ T, H T = none → T ≠ S → zlQ S Q r (acc ++ [.ref T]) (upd H T (.tup [p.1, p.2]))
abbrev fpz (n : Nat) : List Addr := [n, n + 1, n + 2, n + 3, n + 4]
section
variable {X : Cx} {pins : List (Addr × Obj)} {σ : L2.St} {n a b S : Nat} {t1 t2 : Bool} {Q : VK} {R : Result → Shared → Prop} {res : Value} {A : Around}
theorem upd_comm2 {H : Hp} {x y : Addr} {u v w : HO} (h : x ≠ y) : upd (upd (upd H x u) y v) x w = upd (upd H y v) x w := by
  funext c
  by_cases h1 : c = x
  · subst h1
    rw [upd_same, upd_same]
  · rw [upd_ne h1, upd_ne h1]
    by_cases h2 : c = y
    · subst h2
      rw [upd_same, upd_same]
    · rw [upd_ne h2, upd_ne h2, upd_ne h1]
theorem sq_upd {K : PySem.W.Frag} {H : Hp} {t : Bool} {a c : Addr} {xs : List V} {o : HO} (h : Sq K H t a xs) (hc : H c = none) : Sq K (upd H c o) t a xs := by
  have s : Same H (upd H c o) := fun d x q => by
    rw [upd_ne (fun z => by rw [z, hc] at q; cases q)]
    exact q
  cases t
  · exact s.seq (show SqL K H a xs from h)
  · exact sqt_mono s (show SqT K H a xs from h)
theorem drainZ (hA : A.handled = none) (na : a < n) (nb : b < n) (hS : n + 4 < S) (hR : ∀ (s' : Shared) (H' : Hp), L2.Inv X pins σ H' s' → Q (.ref S) H' → R (.ok (.ret res)) s') :
    ∀ (r : List (V × V)) (i : Nat) (acc : List V) (H : Hp) (s : Shared) (xs ys : List V), xs.length = ys.length → (xs.zip ys).drop i = r → i ≤ xs.length → L2.Inv X pins σ (upd H S (.lst acc)) s → H S = none → (∀ c ∈ fpz n, FpOk X pins (upd H S (.lst acc)) c) →
      ZK s.heap n t1 t2 a b i → Sq X.K H t1 a xs → Sq X.K H t2 b ys → acc.length + r.length < sizeLine → zlQ S Q r acc H → codeAny (model X.prog X.w) A (.builtin "list.extend.loop" ⟨[.ref S, .ref (n + 4), res], []⟩) R s := by
  intro r
  induction r with
  | nil =>
    intro i acc H s xs ys hl hr hi I hn hf D q1 q2 hz hq
    have hle : xs.length ≤ i := by
      have := congrArg List.length hr
      rw [List.length_drop, List.length_zip] at this
      simp at this
      omega
    obtain ⟨is1, rv1, p1⟩ := sq_ob I (sq_upd q1 hn)
    obtain ⟨is2, rv2, p2⟩ := sq_ob I (sq_upd q2 hn)
    have e1 := rv1.length
    have e2 := rv2.length
    refine codeAny_builtin F.entry_extend_loop ?_
    rw [Around.under_plainId F.plain_extend_loop _]
    show wpAny _ A.in1 (pyNext (.ref (n + 4)) >>= _) _ _ s
    refine wpAny_bind (zk_stop (A := A.in1) hA D na nb p1 p2 (by simp; omega) (by simp; omega) fun h' ak => ?_)
    exact wpAny_pure (hR _ _ (I.turnedL (t' := s.toks) (ch := fpz n) ak hf) hq)
  | cons p r ih =>
    intro i acc H s xs ys hl hr hi I hn hf D q1 q2 hz hq
    have hlt : i < xs.length := by
      have := congrArg List.length hr
      rw [List.length_drop, List.length_zip] at this
      simp at this
      omega
    have hg : (xs.zip ys)[i]? = some p := by
      have : ((xs.zip ys).drop i)[0]? = some p := by rw [hr]; rfl
      rw [List.getElem?_drop] at this
      exact this
    obtain ⟨g1, g2⟩ := List.getElem?_zip_eq_some.mp hg
    obtain ⟨is1, rv1, p1⟩ := sq_ob I (sq_upd q1 hn)
    obtain ⟨is2, rv2, p2⟩ := sq_ob I (sq_upd q2 hn)
    obtain ⟨u1, hu1, ru1⟩ := rv1.get g1
    obtain ⟨u2, hu2, ru2⟩ := rv2.get g2
    obtain ⟨_, its, c, rvS, hoS⟩ := I.hok S (.lst acc) upd_same
    have hSlt : S < s.heap.objs.size := Heap.lt_size hoS
    refine codeAny_builtin F.entry_extend_loop ?_
    rw [Around.under_plainId F.plain_extend_loop _]
    show wpAny _ A.in1 (pyNext (.ref (n + 4)) >>= _) _ _ s
    refine wpAny_bind (zk_next (A := A.in1) D na nb p1 p2 (by simpa using hu1) (by simpa using hu2) fun h' D' T' hsz ak => ?_)
    have SnF : S ∉ fpz n := by simp; omega
    have hS1 : h'.get? S = some { cls := .type "list", data := .seq its.toArray c } := ak S _ SnF hoS
    have eL := rvS.length
    have hacc : acc.length < sizeLine := by omega
    show wpAny _ A.in1 (updateSeq S (·.push (.ref s.heap.objs.size)) >>= _) _ _ _
    refine wpAny_bind ?_
    refine wpAny_updateSeq hS1 rfl (wpAny_pure ⟨plainId_quiet F.plain_extend_loop _, ?_⟩) (by simp; omega) (by simp; omega)
    have TnS : s.heap.objs.size ≠ S := Nat.ne_of_gt hSlt
    have hTn : (upd H S (.lst acc)) s.heap.objs.size = none := I.hok.fresh (Nat.le_refl _)
    have hTn' : H s.heap.objs.size = none := by rw [upd_ne TnS] at hTn; exact hTn
    have new : ObjOk X.prog X.w (upd (upd H S (.lst acc)) s.heap.objs.size (.tup [p.1, p.2])) h' s.heap.objs.size (.tup [p.1, p.2]) :=
      ⟨by show 2 ≤ sizeLine; decide, [u1, u2], .cons ru1 (.cons ru2 .nil), ⟨_, T', rfl, _, rfl⟩⟩
    have I1 : L2.Inv X pins σ (upd (upd H S (.lst acc)) s.heap.objs.size (.tup [p.1, p.2])) { s with heap := h' } := I.turnedNew (t' := s.toks) (ch := fpz n) ak hf (Nat.le_refl _) new
    have hS2 := Heap.get?_update_self (Obj.mapSeq (·.push (Value.ref s.heap.objs.size))) hS1 rfl
    have k2 : ∀ d u, d ≠ S → h'.get? d = some u → (h'.update S (Obj.mapSeq (·.push (Value.ref s.heap.objs.size)))).get? d = some u := fun d u q e => (Heap.get?_update_other _ _ (Ne.symm q)).trans e
    have I2 : L2.Inv X pins σ (upd (upd (upd H S (.lst acc)) s.heap.objs.size (.tup [p.1, p.2])) S (.lst (acc ++ [.ref s.heap.objs.size]))) { s with heap := h'.update S (Obj.mapSeq (·.push (Value.ref s.heap.objs.size))) } := by
      refine I1.write (t' := s.toks) (x := S) (e := S) ?_ (.inl rfl) k2 ⟨_, hS2⟩ ⟨?_, its ++ [Value.ref s.heap.objs.size], c + 1, rvS.append (show Vals [V.ref s.heap.objs.size] [Value.ref s.heap.objs.size] from .cons rfl .nil), ?_⟩
      · rw [upd_ne (Ne.symm TnS), upd_same]
        trivial
      · rw [List.length_append]
        show acc.length + 1 ≤ sizeLine
        omega
      · rw [hS2]
        simp [Obj.mapSeq]
    rw [upd_comm2 (Ne.symm TnS)] at I2
    have hf2 : ∀ c ∈ fpz n, FpOk X pins (upd (upd H s.heap.objs.size (.tup [p.1, p.2])) S (.lst (acc ++ [.ref s.heap.objs.size]))) c := fun c hc => by
      obtain ⟨f1, f2⟩ := hf c hc
      have cS : c ≠ S := fun z => SnF (z ▸ hc)
      have cT : c ≠ s.heap.objs.size := by
        have lt := D.lt
        have e' : c = n ∨ c = n + 1 ∨ c = n + 2 ∨ c = n + 3 ∨ c = n + 4 := by simpa using hc
        rcases e' with z | z | z | z | z <;> rw [z] <;> exact Nat.ne_of_lt (by omega)
      rw [upd_ne cS] at f1
      exact ⟨by rw [upd_ne cS, upd_ne cT]; exact f1, f2⟩
    have D2 : ZK (h'.update S (Obj.mapSeq (·.push (Value.ref s.heap.objs.size)))) n t1 t2 a b (i + 1) := by
      rcases D' with ⟨x1, x2, ⟨y1, y2, x3⟩, x4, x5⟩ | ⟨T, ⟨f, x1⟩, ⟨o, al⟩, ne, x2, x4, x5⟩
      · exact .inl ⟨k2 _ _ (by omega) x1, k2 _ _ (by omega) x2, ⟨y1, y2, k2 _ _ (by omega) x3⟩, x4.at fun o q => k2 _ o (by omega) q, x5.at fun o q => k2 _ o (by omega) q⟩
      · refine .inr ⟨T, ⟨f, k2 _ _ (by omega) x1⟩, ?_, ne, k2 _ _ (by omega) x2, x4.at fun o q => k2 _ o (by omega) q, x5.at fun o q => k2 _ o (by omega) q⟩
        by_cases hT : T = S
        · subst hT
          exact ⟨_, hS2⟩
        · exact ⟨o, k2 _ _ hT al⟩
    refine ih (i + 1) (acc ++ [.ref s.heap.objs.size]) (upd H s.heap.objs.size (.tup [p.1, p.2])) _ xs ys hl ?_ hlt I2 ?_ hf2 D2 (sq_upd q1 hTn') (sq_upd q2 hTn') ?_ (hq _ hTn' TnS)
    · have := congrArg List.tail hr
      rw [List.tail_drop] at this
      exact this
    · rw [upd_ne (Ne.symm TnS)]
      exact hn
    · have hz : acc.length + (r.length + 1) < sizeLine := hz
      rw [List.length_append]
      show acc.length + 1 + r.length < sizeLine
      omega
end
end DL


set_option Elab.async false
set_option linter.all false
set_option maxRecDepth 100000
set_option maxHeartbeats 2000000
/-! DLY3: the expression list(zip(xs, ys, strict=True)). -/
namespace DL
open PySem PySem.Spec PyProof.Rows L2
section
variable {X : Cx} {pins : List (Addr × Obj)} {σ : L2.St} {H : Hp} {s : Shared} {n a b : Nat} {t1 t2 : Bool} {xs ys : List V} {Q : VK}
theorem call_listZ (hc : X.calm = true) (I : L2.Inv X pins σ H s) (D : Z2 s.heap n true t1 t2 a b 0) (hf : ∀ c ∈ fpz n, FpOk X pins H c) (na : a < n) (nb : b < n) (q1 : Sq X.K H t1 a xs) (q2 : Sq X.K H t2 b ys) (hl : xs.length = ys.length) (hz : xs.length < sizeLine)
    (q : ∀ S, H S = none → zlQ S Q (xs.zip ys) [] H) : wpAny (model X.prog X.w) X.A (call (.type "list") [.ref (n + 4)]) (EP X pins σ Q) X.xe s := by
  have hnS : n + 4 < s.heap.objs.size := Heap.lt_size D.z
  have hSa : s.heap.objs.size ≠ n + 4 := Nat.ne_of_gt hnS
  have hA : X.A.handled = none := I.ok.hd hc
  refine callType_codes (Q₁ := fun obj s₁ => obj = .ref s.heap.objs.size ∧ s₁ = { s with heap := s.heap.push { cls := .type "list", data := .seq #[] } }) F.called_list (F.typeCall_list_1 _) F.entry_list_init
    (code_list_new _ ⟨rfl, rfl⟩) fun obj s₁ h₁ => ?_
  obtain ⟨rfl, rfl⟩ := h₁
  have hS : (s.heap.push { cls := .type "list", data := .seq #[] }).get? s.heap.objs.size = some { cls := .type "list", data := .seq #[] } := Heap.get?_push_size _ rfl
  refine ⟨⟨_, hS, rfl⟩, F.args_list_init_2 _ _, ?_⟩
  have key : ∀ (h : Heap) (c tk : Nat) (R : Result → Shared → Prop), (∀ b o, s.heap.get? b = some o → h.get? b = some o) → h.get? s.heap.objs.size = some { cls := .type "list", data := .seq #[] c } →
      (∀ (s' : Shared) (H' : Hp), L2.Inv X pins σ H' s' → Q (.ref s.heap.objs.size) H' → R (.ok (.ret .none)) s') →
      codeAny (model X.prog X.w) X.A.in1 (.builtin "list.extend.loop" ⟨[.ref s.heap.objs.size, .ref (n + 4), .none], []⟩) R { s with heap := h, toks := tk } := fun h c tk R k hS hR => by
    have fresh : H s.heap.objs.size = none := I.hok.fresh (Nat.le_refl _)
    have I1 : L2.Inv X pins σ (upd H s.heap.objs.size (.lst [])) { s with heap := h, toks := tk } := I.laid (t' := tk) k (Nat.le_refl _) ⟨Nat.zero_le _, [], c, .nil, hS⟩
    refine drainZ (A := X.A.in1) (Q := Q) hA na nb hnS hR (xs.zip ys) 0 [] H _ xs ys hl rfl (Nat.zero_le _) I1 fresh (fun d hd => ?_) ((show ZK s.heap n t1 t2 a b 0 from .inl D).at k) q1 q2 ?_ (q _ fresh)
    · obtain ⟨f1, f2⟩ := hf d hd
      have e' : d = n ∨ d = n + 1 ∨ d = n + 2 ∨ d = n + 3 ∨ d = n + 4 := by simpa using hd
      have cT : d ≠ s.heap.objs.size := by
        rcases e' with z | z | z | z | z <;> rw [z] <;> exact Nat.ne_of_lt (by omega)
      exact ⟨by rw [upd_ne cT]; exact f1, f2⟩
    · rw [List.length_zip]
      show 0 + min xs.length ys.length < sizeLine
      omega
  show wpAny _ X.A.in1.in1 (do let old ← Builtin.List.listItems (.ref s.heap.objs.size); Builtin.List.listUpdate (.ref s.heap.objs.size) (fun _ => #[]); letGo old.toList.reverse; Builtin.List.listExtendWith (.ref s.heap.objs.size) (.ref (n + 4)) .none) _ _ _
  refine wpAny_bind ?_
  unfold Builtin.List.listItems
  refine wpAny_bind (wpAny_seqItems hS rfl (wpAny_pure ?_))
  show wpAny _ X.A.in1.in1 (updateSeq s.heap.objs.size (fun _ => #[]) >>= fun _ => letGo (#[] : Array Value).toList.reverse >>= fun _ => Builtin.List.listExtendWith (.ref s.heap.objs.size) (.ref (n + 4)) .none) _ _ _
  refine wpAny_bind (wpAny_updateSeq hS rfl ?_)
  have hS2 := Heap.get?_update_self (Obj.mapSeq (fun _ => (#[] : Array Value))) hS rfl
  refine wpAny_bind (wpAny_letGo ?_)
  unfold Builtin.List.listExtendWith
  have up : ∀ (h : Heap) (f : Obj → Obj), (∀ b o, s.heap.get? b = some o → h.get? b = some o) → ∀ b o, s.heap.get? b = some o → (h.update s.heap.objs.size f).get? b = some o := fun h f q b o e =>
    (Heap.get?_update_other _ _ (Ne.symm (Nat.ne_of_lt (Heap.lt_size e)))).trans (q b o e)
  have k1 : ∀ b o, s.heap.get? b = some o → (s.heap.push { cls := .type "list", data := .seq #[] }).get? b = some o := fun b o e => Heap.get?_push_of_some _ e
  have k2 := up _ (Obj.mapSeq (fun _ => (#[] : Array Value))) k1
  have gz : ∀ {h : Heap}, (∀ b o, s.heap.get? b = some o → h.get? b = some o) → ZipO h (n + 4) (n + 2) (n + 3) .none true := fun {h} q => q _ _ D.z
  refine wpAny_bind (wpAny_typeOf (T := "zip") ⟨_, gz k2, rfl⟩ ?_)
  have h1 : Builtin.List.listSameRef (.ref s.heap.objs.size) (.ref (n + 4)) = false := by simp [Builtin.List.listSameRef, hSa]
  have h2 : (Value.type "zip" == Value.type "list") = false := by decide
  have h3 : (Value.type "zip" == Value.type "tuple") = false := by decide
  simp only [h1, h2, h3, Bool.or_false, Bool.false_eq_true, if_false]
  refine wpAny_bind (iterZ (s := { s with heap := _ }) (gz k2) ?_)
  refine wpAny_bind (wpAny_holding ?_)
  unfold Builtin.List.listLengthHint
  refine wpAny_bind (wpAny_specialOf (T := "zip") ⟨_, gz k2, rfl⟩ zip_no_len ?_)
  show wpAny _ X.A.in1.in1 (specialOf (Value.ref (n + 4)) (Str.ofString "__length_hint__") >>= _) _ _ _
  refine wpAny_bind (wpAny_specialOf (T := "zip") ⟨_, gz k2, rfl⟩ zip_no_hint ?_)
  refine wpAny_pure ?_
  show wpAny _ X.A.in1.in1 (rule "list.extend.makes-room" >>= fun _ => Builtin.List.listTouch (.ref s.heap.objs.size) >>= fun _ =>
    again (.builtin "list.extend.loop" ⟨[.ref s.heap.objs.size, .ref (n + 4), .none], []⟩)) _ _ _
  refine wpAny_bind (wpAny_rule ?_)
  refine wpAny_bind ?_
  show wpAny _ X.A.in1.in1 (updateSeq s.heap.objs.size (·.push .none) >>= fun _ => updateSeq s.heap.objs.size (·.pop)) _ _ _
  refine wpAny_bind (wpAny_updateSeq hS2 rfl ?_)
  have hS3 := Heap.get?_update_self (Obj.mapSeq (·.push Value.none)) hS2 rfl
  refine wpAny_updateSeq (hz := by seq_fits) hS3 rfl ?_
  have hS4 := Heap.get?_update_self (Obj.mapSeq (·.pop)) hS3 rfl
  have k4 := up _ (Obj.mapSeq (·.pop)) (up _ (Obj.mapSeq (·.push Value.none)) k2)
  refine wpAny_pure ⟨plainId_quiet F.plain_extend_loop _, ?_⟩
  exact key _ _ s.toks _ k4 hS4 fun s' H' I' q' => ⟨rfl, .ref s.heap.objs.size, H', I', rfl, q'⟩
variable {e e2 : Expr} {ta : TA} {p p2 pos pos2 kp kq : Pos} {kj : Nat}
def tLz (K : PySem.W.Frag) (ta : TA) : TE := fun σ H Q => ta σ H fun vs H1 => ∃ (a b : Nat) (t1 t2 : Bool) (xs ys : List V), vs = [.ref a, .ref b] ∧ Sq K H1 t1 a xs ∧ Sq K H1 t2 b ys ∧ xs.length = ys.length ∧ xs.length < sizeLine ∧ ∀ S, H1 S = none → zlQ S Q (xs.zip ys) [] H1
theorem pe_listZ (hc : X.calm = true) (hgl : Gl X "list") (hml : X.mg "list" = none) (hg : Gl X "zip") (hm : X.mg "zip" = none) (ha : PA X [e, e2] ta) (hs : starEach [e, e2] X.env = (false, eval e X.env) :: starEach [e2] X.env) (hpl : (backTo pos2 (starEach [e2] X.env)).any (·.1) = false)
    (nn : starEach [.Call (.Name "zip" p2) [e, e2] (kwE true kj kp kq) pos2] X.env = (false, eval (.Call (.Name "zip" p2) [e, e2] (kwE true kj kp kq) pos2) X.env) :: starEach [] X.env := by rfl) :
    PE X (.Call (.Name "list" p) [.Call (.Name "zip" p2) [e, e2] (kwE true kj kp kq) pos2] [] pos) (tLz X.K ta) := by
  refine ⟨fun pins s σ H Q I h => ?_⟩
  refine Call_ (ld_blt I hgl hml PyProof.Rows.boot_list (PyProof.Rows.callWith_type1 (args_cons (zip_call hg hm ha hs hpl I h fun us vs H1 s1 I1 r1 q1 => ?_) nn) nn))
  obtain ⟨a, b, t1, t2, xs, ys, ev, q0, q1, hl, hz, q⟩ := q1
  subst ev
  cases r1 with
  | cons r rr =>
    cases rr with
    | cons r' rr =>
      cases rr
      cases r
      cases r'
      obtain ⟨i1, rv1, p1⟩ := sq_ob I1 q0
      obtain ⟨i2, rv2, p2⟩ := sq_ob I1 q1
      refine call_z2 p1 p2 fun h' D hk => args_nil ?_
      have I2 : L2.Inv X pins σ H1 { s1 with heap := h' } := I1.kept (t' := s1.toks) hk
      have n1 : a < s1.heap.objs.size := p1.lt
      have n2 : b < s1.heap.objs.size := p2.lt
      exact call_listZ hc I2 D (fun c hc => by
        have hle : s1.heap.objs.size ≤ c := by
          have e' : c = s1.heap.objs.size ∨ c = s1.heap.objs.size + 1 ∨ c = s1.heap.objs.size + 2 ∨ c = s1.heap.objs.size + 3 ∨ c = s1.heap.objs.size + 4 := by simpa using hc
          rcases e' with z | z | z | z | z <;> rw [z] <;> first | exact Nat.le_refl _ | exact Nat.le_add_right _ _
        exact I1.fpOk hle (I1.hok.fresh hle)) n1 n2 q0 q1 hl hz q
end
end DL


set_option Elab.async false
set_option linter.all false
set_option maxRecDepth 100000
set_option maxHeartbeats 2000000
/-! DLY4: list(zip(..)), list(range(..)) as terms. -/
namespace DL
open PySem PySem.Spec PyProof.Rows L2
section
variable {K : PySem.W.Frag} {xo : XO} {mg : Str → Option Value} {W : WX} {G : List D} {Γ : List Fn} {σ : L2.St} {H : Hp} {Q : VK} {B : FB}
theorem bind_assocR {α β γ : Type} (m : R α) (f : α → Env → R β) (g : β → Env → R γ) : (m.bind f).bind g = m.bind fun x e => (f x e).bind g := by cases m <;> rfl
theorem zl_ok {S : Addr} {e : Env} : ∀ {vs us : List V} {ds es : List D} {F H : Hp} {acc : List V} {ac : List D}, Rel K xo B F σ H e → H S = none → DenAll K xo F vs ds → DenAll K xo F us es → DenAll K xo F acc ac →
    PostE K xo mg W B σ F (.ok (.fr (ac ++ zipAll [ds, es])) e) Q → zlQ S Q (vs.zip us) acc H
  | _, _, _, _, F, H, acc, ac, r, hS, .nil, _, a, post => by
    have post : PostE K xo mg W B σ F (.ok (.fr (ac ++ [])) e) Q := post
    rw [List.append_nil] at post
    exact post_lst r post a S hS
  | _, _, _, _, F, H, acc, ac, r, hS, .cons d1 r1, .nil, a, post => by
    have post : PostE K xo mg W B σ F (.ok (.fr (ac ++ [])) e) Q := post
    rw [List.append_nil] at post
    exact post_lst r post a S hS
  | _, _, _, _, F, H, acc, ac, r, hS, .cons (v := v) (d := d) d1 r1, .cons (v := u) (d := d') d2 r2, a, post => fun T hT ne => by
    have sf := same_upd (o := HO.tup [v, u]) (r.f0 hT)
    refine zl_ok (r.laid hT) (by rw [upd_ne (Ne.symm ne)]; exact hS) (r1.mono sf) (r2.mono sf) ((a.mono sf).append (.cons (.tup (.inl (.inl upd_same)) (.cons (d1.mono sf) (.cons (d2.mono sf) .nil))) .nil)) ?_
    rw [List.append_assoc]
    exact post.sub sf
theorem sem_lz {es : Exs} {e0 e2 : Ex} (hes : es = .cons e0 (.cons e2 .nil)) (h : tE K xo mg G Γ W (.lit_ (.zip true es)) σ H Q) : tLz K (tEs K xo mg G Γ W es) σ H Q := by
  obtain ⟨B, F, e, r, h⟩ := h
  have h : PostE K xo mg W B σ F (((evEs G Γ es e).bind fun xs e1 => toR (zipD true xs) e1).bind fun xs e1 => if xs.length ≤ lim then .ok (.fr xs) e1 else .bad) Q := h
  rw [bind_assocR] at h
  have hl : ∀ xs e1, evEs G Γ es e = .ok xs e1 → xs.length = 2 := by
    intro xs e1 q
    rw [hes] at q
    have q : ((evE G Γ e0 e).bind fun x e1 => (((evE G Γ e2 e1).bind fun y e3 => R.ok (y.fz :: []) e3)).bind fun xs e3 => R.ok (x.fz :: xs) e3) = .ok xs e1 := q
    obtain ⟨x, e3, _, q⟩ := bind_ok q
    obtain ⟨ys, e4, q0, q⟩ := bind_ok q
    obtain ⟨y, e5, _, q0⟩ := bind_ok q0
    injection q0 with q1 q2
    injection q with q3 q4
    rw [← q3, ← q1]
    rfl
  refine ⟨B, F, e, r, ?_⟩
  have h2 := bindXE h
  cases q : evEs G Γ es e with
  | bad => rw [q] at h2; exact h2
  | exn c ps e => rw [q] at h2; exact h2
  | ok xs e1 =>
    rw [q] at h2
    have h1 := hl xs e1 q
    refine fun H1 F1 r1 s1 vs dv => ?_
    have hp := h2 H1 F1 r1 s1
    match xs, h1, dv, hp with
    | [x, y], _, dv, hp =>
      cases dv with
      | cons d1 dr =>
        cases dr with
        | cons d2 dr =>
          cases dr
          cases ex : items? x with
          | none =>
            have e0 : zipD true [x, y] = none := by unfold zipD; simp only [List.map_cons, List.map_nil, ex]
            rw [e0] at hp
            exact hp.elim
          | some us =>
            cases ey : items? y with
            | none =>
              have e0 : zipD true [x, y] = none := by unfold zipD; simp only [List.map_cons, List.map_nil, ex, ey]
              rw [e0] at hp
              exact hp.elim
            | some ws =>
              have ed : zipD true [x, y] = if us.length = ws.length then some (zipAll [us, ws]) else none := by
                unfold zipD
                simp only [List.map_cons, List.map_nil, ex, ey, true_implies]
              rw [ed] at hp
              by_cases hs : us.length = ws.length
              · rw [if_pos hs] at hp
                have hp : PostE K xo mg W B σ F1 (if (zipAll [us, ws]).length ≤ lim then .ok (.fr (zipAll [us, ws])) e1 else .bad) Q := hp
                by_cases hz : (zipAll [us, ws]).length ≤ lim
                · rw [if_pos hz] at hp
                  obtain ⟨t1, p1, vs1, e1', hq1, da1⟩ := den_items d1 ex
                  obtain ⟨t2, p2, vs2, e2', hq2, da2⟩ := den_items d2 ey
                  subst e1' e2'
                  have l1 := da1.length
                  have l2 := da2.length
                  have hz2 : us.length ≤ lim := by
                    have : (zipAll [us, ws]).length = min us.length ws.length := by
                      show ((us.zip ws).map fun p => PyData.tuple [p.1, p.2]).length = _
                      rw [List.length_map, List.length_zip]
                    omega
                  refine ⟨p1, p2, t1, t2, vs1, vs2, rfl, sq_mono r1.sub hq1, sq_mono r1.sub hq2, by omega, ?_, fun S hS => ?_⟩
                  · rw [l1]
                    exact Nat.lt_of_le_of_lt hz2 (by decide)
                  · exact zl_ok (ac := []) r1 hS da1 da2 .nil hp
                · rw [if_neg hz] at hp
                  exact hp.elim
              · rw [if_neg hs] at hp
                exact hp.elim
theorem den_rngI {F : Hp} : ∀ (n : Nat) (a : Int), DenAll K xo F ((List.range n).map fun i => V.int (a + (i : Nat))) (rngI a n)
  | 0, _ => .nil
  | n + 1, a => by
    rw [List.range_succ_eq_map, List.map_cons, List.map_map]
    refine .cons ?_ ?_
    · show Den K xo F (.int (a + ((0 : Nat) : Int))) (.int a)
      rw [show a + ((0 : Nat) : Int) = a by omega]
      exact .int _
    · have := den_rngI (F := F) n (a + 1)
      have e : ((fun i : Nat => V.int (a + (i : Nat))) ∘ Nat.succ) = fun i : Nat => V.int (a + 1 + (i : Nat)) := by
        funext i
        show V.int (a + ((i + 1 : Nat) : Int)) = _
        congr 1
        omega
      rw [e]
      exact this
theorem rngI_lenR : ∀ (n : Nat) (a : Int), (rngI a n).length = n
  | 0, _ => rfl
  | n + 1, a => congrArg (· + 1) (rngI_lenR n (a + 1))
theorem sem_lr {a : Ex} (h : tE K xo mg G Γ W (.lit_ (.rng (.cons a .nil))) σ H Q) : tLstRg (tRg1 (tE K xo mg G Γ W a)) σ H Q := by
  obtain ⟨B, F, e, r, h⟩ := h
  have h : PostE K xo mg W B σ F ((((evE G Γ a e).bind fun x e1 => (R.ok [] e1).bind fun xs e3 => R.ok (x.fz :: xs) e3).bind fun xs e1 => toR (rngD xs) e1).bind fun xs e1 => if xs.length ≤ lim then .ok (.fr xs) e1 else .bad) Q := h
  rw [bind_assocR, bind_assocR] at h
  refine tE_bind r h (fun x y e q => by rw [q]) fun x e1 v H1 F1 r1 s1 dv hp => ?_
  have hp : PostE K xo mg W B σ F1 ((toR (rngD [x]) e1).bind fun xs e1 => if xs.length ≤ lim then .ok (.fr xs) e1 else .bad) Q := hp
  cases x with
  | int j =>
    have ej : rngD [.int j] = if big j = true then some (rngI 0 j.toNat) else none := rfl
    rw [ej] at hp
    by_cases hb : big j = true
    · rw [if_pos hb] at hp
      have hp : PostE K xo mg W B σ F1 (if (rngI 0 j.toNat).length ≤ lim then .ok (.fr (rngI 0 j.toNat)) e1 else .bad) Q := hp
      by_cases hz : (rngI 0 j.toNat).length ≤ lim
      · rw [if_pos hz] at hp
        rw [rngI_lenR] at hz
        cases dv
        have hz2 : j.toNat ≤ 1048576 := hz
        have hb2 : -1000000000 ≤ j ∧ j ≤ 1000000000 := by
          unfold big at hb
          simp only [Bool.and_eq_true, decide_eq_true_eq] at hb
          exact hb
        refine ⟨j, rfl, ⟨by omega, by omega, by omega, by omega, by omega⟩, ?_⟩
        have d := den_rngI (K := K) (xo := xo) (F := F1) j.toNat 0
        refine post_lst r1 hp ?_
        unfold rgV
        rw [show (j - 0).toNat = j.toNat by omega]
        exact d
      · rw [if_neg hz] at hp
        exact hp.elim
    · rw [if_neg hb] at hp
      exact hp.elim
  | none => exact hp.elim
  | bool _ => exact hp.elim
  | str _ => exact hp.elim
  | list _ => exact hp.elim
  | tuple _ => exact hp.elim
  | dict _ => exact hp.elim
end
end DL


set_option Elab.async false
set_option linter.all false
set_option maxRecDepth 100000
set_option maxHeartbeats 8000000
/-! DL17: the main theorem of terms. -/
namespace DL
open PySem PySem.Spec PyProof.Rows L2

theorem _root_.L2.PE.imp {X : Cx} {e : Expr} {t t' : TE} (h : PE X e t) (i : ∀ σ H Q, t' σ H Q → t σ H Q) : PE X e t' := DL.PE.imp h i
theorem _root_.L2.PT.imp {X : Cx} {e : Expr} {t t' : TT} (h : PT X e t) (i : ∀ σ H Q, t' σ H Q → t σ H Q) : PT X e t' := DL.PT.imp h i
theorem _root_.L2.PA.imp {X : Cx} {e : List Expr} {t t' : TA} (h : PA X e t) (i : ∀ σ H Q, t' σ H Q → t σ H Q) : PA X e t' := DL.PA.imp h i
theorem _root_.L2.PI.imp {X : Cx} {g e : Expr} {t t' : TI} (h : PI X g e t) (i : ∀ σ H Q, t' σ H Q → t σ H Q) : PI X g e t' := DL.PI.imp h i
theorem _root_.L2.PO.imp {X : Cx} {e : Option Expr} {t t' : TO} (h : PO X e t) (i : ∀ σ H Q, t' σ H Q → t σ H Q) : PO X e t' := DL.PO.imp h i
theorem _root_.L2.PTs.imp {X : Cx} {e : List Expr} {t t' : TT} (h : PTs X e t) (i : ∀ σ H Q, t' σ H Q → t σ H Q) : PTs X e t' := DL.PTs.imp h i
theorem pt_ife {X : Cx} {c a b : Expr} {tc ta tb : TT} {pos : Pos} (hc : PT X c tc) (ha : PT X a ta) (hb : PT X b tb) : PT X (.IfExp c a b pos) (tIfT tc ta tb) := by
  refine ⟨fun pins s σ H Q I h => ?_⟩
  show wpAny _ _ (do if ← isTrue c X.env (eval c X.env) then isTrue a X.env (eval a X.env) else isTrue b X.env (eval b X.env)) _ _ s
  refine wpAny_bind (thn (hc.run pins s σ H _ I h) fun d s1 ⟨H1, I1, q1⟩ => ?_)
  cases d with
  | true =>
    rw [if_pos rfl] at q1 ⊢
    exact ha.run pins s1 σ H1 Q I1 q1
  | false =>
    rw [if_neg Bool.false_ne_true] at q1 ⊢
    exact hb.run pins s1 σ H1 Q I1 q1
theorem pt_pw {X : Cx} {o : BoolOp} {es : List Expr} {pos : Pos} {t : TT} (h : PT X (.BoolOp o es pos) t) : PW X (.BoolOp o es pos) t := ⟨fun _ pins s σ H Q I q => h.run pins s σ H Q I q⟩
theorem kwB_e {st : Bool} {kws : List Keyword} (h : kwB st kws = true) : ∃ j p q, kws = kwE st j p q := by
  unfold kwB at h
  split at h
  · cases st with
    | false => exact ⟨0, default, default, rfl⟩
    | true => cases h
  · cases st with
    | false => cases h
    | true =>
      rename_i x j p q
      have e : x = ("strict" : Str) := by simpa using h
      subst e
      exact ⟨j, p, q, rfl⟩
  · cases h
section
variable {K : PySem.W.Frag} {xo : XO} {mg : Str → Option Value} {G : List D} {Γ : List Fn} {W : WX} {σ : L2.St} {H : Hp}
theorem sem_nil {Q : List V → Hp → Prop} (h : tEs K xo mg G Γ W .nil σ H Q) : tNil σ H Q := by
  obtain ⟨B, F, e, r, h⟩ := h
  exact h H F r (Same.refl _) [] .nil
theorem sem_non {Q : Option Int → Hp → Prop} (h : tO K xo mg G Γ W .non σ H Q) : tNoPart σ H Q := by
  obtain ⟨B, F, e, r, h⟩ := h
  exact h H F r (Same.refl _)
theorem sem_yes {Q : Bool → Hp → Prop} (h : tOT K xo mg G Γ W .non σ H Q) : tYes σ H Q := by
  obtain ⟨B, F, e, r, h⟩ := h
  exact h H F r (Same.refl _)
theorem sem_test {a : Ex} {Q : Bool → Hp → Prop} (h : tOT K xo mg G Γ W (.som a) σ H Q) : tT K xo mg G Γ W a σ H Q := h
theorem sem_gl {k : Nat} {d : D} {v : V} {Q : VK} (hd : G[k]? = some d) (h : tE K xo mg G Γ W (.gl k) σ H Q) (dn : ∀ F, Den K xo F v d) : Q v H := by
  obtain ⟨B, F, e, r, h⟩ := h
  have h : PostE K xo mg W B σ F (match G[k]? with
    | some x => R.ok (DV.d x) e
    | none => R.bad) Q := h
  rw [hd] at h
  exact post_val r h (dn F)
theorem sem_gl0 {k : Nat} {Q : VK} (hd : G[k]? = none) (h : tE K xo mg G Γ W (.gl k) σ H Q) : False := by
  obtain ⟨B, F, e, r, h⟩ := h
  have h : PostE K xo mg W B σ F (match G[k]? with
    | some x => R.ok (DV.d x) e
    | none => R.bad) Q := h
  rw [hd] at h
  exact h
end
section
variable {cf : Cf} {G : List D} {Γ : List Fn} {xo : XO}
theorem plT {X : Cx} {W : WX} {a : Ex} {e : Expr} (h : PE X e (tE X.K xo X.mg G Γ W a)) (he : ∀ whole, isTrue e X.env whole = (do let v ← whole; standAt e.pos; holding [v] (truthy v))) :
    PE X e (tE X.K xo X.mg G Γ W a) ∧ PT X e (tT X.K xo X.mg G Γ W a) := ⟨h, (pt_truth h he).imp fun σ H Q q => sem_truth q⟩
theorem ckEs_any {sc : Scope} {fc : Option Scope} : ∀ {es : Exs} {ls : List Expr} {env : PySem.Env} {pos : Pos}, ckEs cf sc fc es ls = true → (backTo pos (starEach ls env)).any (·.1) = false
  | .nil, [], _, _, _ => rfl
  | .cons a as, e :: es, env, pos, h => by
    have h' : (argB e && ckE cf sc fc a e && ckEs cf sc fc as es) = true := h
    simp only [Bool.and_eq_true] at h'
    rw [starOf h'.1.1]
    show (false || (backTo pos (starEach es env)).any (·.1)) = false
    rw [ckEs_any h'.2]
    rfl
  | .nil, _ :: _, _, _, h => nomatch h
  | .cons _ _, [], _, _, h => nomatch h
theorem ckEs_star {sc : Scope} {fc : Option Scope} {es : Exs} {e : Expr} {ls : List Expr} {env : PySem.Env} (h : ckEs cf sc fc es (e :: ls) = true) : starEach (e :: ls) env = (false, eval e env) :: starEach ls env := by
  cases es with
  | nil => exact nomatch h
  | cons a as =>
    have h' : (argB e && ckE cf sc fc a e && ckEs cf sc fc as ls) = true := h
    simp only [Bool.and_eq_true] at h'
    exact starOf h'.1.1
theorem ckEs_tl {sc : Scope} {fc : Option Scope} {es : Exs} {e : Expr} {ls : List Expr} {env : PySem.Env} {pos : Pos} (h : ckEs cf sc fc es (e :: ls) = true) : (backTo pos (starEach ls env)).any (·.1) = false := by
  cases es with
  | nil => exact nomatch h
  | cons a as =>
    have h' : (argB e && ckE cf sc fc a e && ckEs cf sc fc as ls) = true := h
    simp only [Bool.and_eq_true] at h'
    exact ckEs_any h'.2
theorem argB_name {x : Str} {p : Pos} {es : List Expr} {env : PySem.Env} : starEach (.Name x p :: es) env = (false, eval (.Name x p) env) :: starEach es env := rfl
theorem biVal_cases (f : Bi) (hf : ∀ t, f ≠ .isi t) : (∃ id, biVal f = .builtin id) ∨ ∃ T, biVal f = .type T := by
  cases f <;> first | exact .inl ⟨_, rfl⟩ | exact .inr ⟨_, rfl⟩
theorem bi_nm (f : Bi) : (biName f == ("__debug__" : Str)) = false ∧ biName f ≠ ("__name__" : Str) := by
  cases f with
  | isi t => cases t <;> exact ⟨by decide +kernel, by decide +kernel⟩
  | _ => exact ⟨by decide +kernel, by decide +kernel⟩
theorem ty_nm (t : Ty) : (Str.ofString (tyStr t) == ("__debug__" : Str)) = false ∧ Str.ofString (tyStr t) ≠ ("__name__" : Str) := by
  cases t <;> exact ⟨by decide +kernel, by decide +kernel⟩
theorem bi_mem (f : Bi) : biName f ∈ bNames := by
  cases f with
  | isi t => cases t <;> decide +kernel
  | _ => decide +kernel
theorem ty_mem (t : Ty) : Str.ofString (tyStr t) ∈ bNames := by
  cases t <;> decide +kernel
theorem XOk.blt {X : Cx} {sc : Scope} {fc : Option Scope} {W : WX} (o : XOk X cf sc fc G Γ xo W) {x : Str} (h : x ∈ bNames) : X.mg x = none := o.m.blt x h
/-- a block's facts -/
theorem XOk.blk {X : Cx} {sc : Scope} {fc : Option Scope} {W : WX} (o : XOk X cf sc fc G Γ xo W) (scope : Scope) (s : Shared) (H : Hp) (C : Addr) (cl : List (Str × Addr)) (fp : List Addr) :
    XOk (X.blk s H scope (compEnvC scope cl C X.env) fp) cf (relS scope sc) (some scope) G Γ xo W0 where
  m := o.m
  hN := o.hN
  nd := o.nd
  hsc := by rw [← o.hsc]; rfl
  calm := o.calm
  fn := fun x h => by
    have e : (X.blk s H scope (compEnvC scope cl C X.env) fp).env.scope = relS scope sc := by rw [← o.hsc]; rfl
    rw [e]
    unfold stB at h
    split at h
    · exact .inr (by assumption)
    · exact .inl h
    · cases h
  tk := takes0
  lam := fun z => nomatch z
/-- [f, g][y](e, ..) -/
theorem pe_call2 {X : Cx} {CX : CXT} {k k' i : Nat} {a a' : Addr} {fd fd' : FuncData} {ps ps' : List Str} {sp sp' : Sp} {dvs dvs' : List V} {ds ds' : List Value} {E : L2.St → XK} {x1 x2 y : Str} {p1 p2 pl pz pp pos : Pos} {e : Expr} {es : List Expr} {t : TA} {T : TE}
    (gl1 : Gl X x1) (m1 : X.mg x1 = some (.ref a)) (d1 : (x1 == ("__debug__" : Str)) = false) (gl2 : Gl X x2) (m2 : X.mg x2 = some (.ref a')) (d2 : (x2 == ("__debug__" : Str)) = false)
    (hN : X.N[i]? = some y) (hv : Vis X.env.scope y) (hy : (y == ("__debug__" : Str)) = false) (hy2 : (y == ("__classdict__" : Str)) = false)
    (F : FnOk X.prog X.w X.K X.mg X.base CX k a fd ps sp) (hr : Room k X.A) (hk : PySem.W.keepIn X.K (.ref a) = true) (hb : Binds X.K fd ps ds) (hd : Vals dvs ds)
    (F' : FnOk X.prog X.w X.K X.mg X.base CX k' a' fd' ps' sp') (hr' : Room k' X.A) (hk' : PySem.W.keepIn X.K (.ref a') = true) (hb' : Binds X.K fd' ps' ds') (hd' : Vals dvs' ds') (hx : ∀ σ, PassesAt CX X σ (E σ))
    (ha : PA X (e :: es) t) (he : starEach (e :: es) X.env = (false, eval e X.env) :: starEach es X.env) (hpl : (backTo pos (starEach es X.env)).any (·.1) = false)
    (hT : ∀ σ H Q, T σ H Q → ∃ w : Int, σ[i]? = some (some (.int w)) ∧ (w = 0 ∨ w = 1) ∧ ∀ p, H p = none → (if w = 0 then tCallSD sp dvs E t else tCallSD sp' dvs' E t) σ (upd H p (.lst [.ref a, .ref a'])) Q) :
    PE X (.Call (.Subscript (.List [.Name x1 p1, .Name x2 p2] pl) (.Name y pz) pp) (e :: es) [] pos) T := by
  refine ⟨fun pins s σ H Q I h => ?_⟩
  obtain ⟨w, w1, w2, w3⟩ := hT σ H Q h
  have hf := pe_ix (pos := pp) ix_list (pe_lst (pos := pl) (pa_cons (pe_glob (pos := p1) gl1 m1 (show RelV (.ref a) (.ref a) from rfl) d1) (pa_cons (pe_glob (pos := p2) gl2 m2 (show RelV (.ref a') (.ref a') from rfl) d2) pa_nil))) (pe_var (pos := pz) hN hv hy hy2) (fun _ _ => rfl)
  refine Call_ (thn (hf.run pins s σ H (fun v H1 => v = (if w = 0 then .ref a else .ref a') ∧ (if w = 0 then tCallSD sp dvs E t else tCallSD sp' dvs' E t) σ H1 Q) I ?_) fun u s1 hh => ?_) rfl
  · refine ⟨(by decide : 2 ≤ sizeLine), fun p hp => ?_⟩
    refine ⟨.int w, w1, p, [.ref a, .ref a'], w, if w = 0 then .ref a else .ref a', rfl, rfl, .inl (.inl upd_same), ?_, rfl, w3 p hp⟩
    rcases w2 with rfl | rfl
    · exact L2.atI_nat (j := 0) rfl
    · exact L2.atI_nat (j := 1) rfl
  · obtain ⟨v, H1, I1, rv, ev, q⟩ := hh
    subst ev
    rcases w2 with rfl | rfl
    · obtain rfl : u = Value.ref a := rv
      refine PySem.W.callWith_K (h₀ := X.base) I1.ok.mod.kin hk (thn (ha.run pos pins s1 σ H1 _ I1 q) fun us s2 ⟨vs, H2, I2, r, q2⟩ => ⟨I2.kIn, ?_⟩) he hpl
      exact run_fnSD F hr hb hd (hx σ) I2 r q2
    · obtain rfl : u = Value.ref a' := rv
      refine PySem.W.callWith_K (h₀ := X.base) I1.ok.mod.kin hk' (thn (ha.run pos pins s1 σ H1 _ I1 q) fun us s2 ⟨vs, H2, I2, r, q2⟩ => ⟨I2.kIn, ?_⟩) he hpl
      exact run_fnSD F' hr' hb' hd' (hx σ) I2 r q2
theorem fewP {e : Expr} {pos : Pos} {env : PySem.Env} (h : argB e = true) : ((backTo pos (starEach [e] env)).all (fun x => !x.1) && (backToKw pos (keywordEach [] env)).all (fun x => x.1.isSome) && decide (([e] : List Expr).length + ([] : List Keyword).length + (if ([] : List Keyword).isEmpty then 0 else 1) < 30)) = true := by
  rw [starOf h]
  rfl
mutual
theorem okE : ∀ (a : Ex) {X : Cx} {sc : Scope} {fc : Option Scope} {W : WX} (o : XOk X cf sc fc G Γ xo W) (e : Expr), ckE cf sc fc a e = true → PE X e (tE X.K xo X.mg G Γ W a) ∧ PT X e (tT X.K xo X.mg G Γ W a)
  | .lit c, X, sc, fc, W, o, e, h => by
    cases e with
    | Constant k j pos =>
      cases c <;> cases k <;> first
        | exact absurd (show false = true from h) (by decide)
        | exact plT (pe_non.imp fun σ H Q q => sem_lit q fun _ => .non) (fun _ => rfl)
        | (rename_i b c
           have e : b = c := by simpa [ckE, ckLit] using h
           subst e
           exact plT (pe_bl.imp fun σ H Q q => sem_lit q fun _ => .bl _) (fun _ => rfl))
        | (rename_i b c
           have e : b = c := by simpa [ckE, ckLit] using h
           subst e
           exact plT (pe_int.imp fun σ H Q q => sem_lit q fun _ => .int _) (fun _ => rfl))
        | (rename_i b c
           have e : b = c := by simpa [ckE, ckLit] using h
           subst e
           exact plT (pe_str.imp fun σ H Q q => sem_lit q fun _ => .str _) (fun _ => rfl))
    | _ => cases c <;> exact absurd (show false = true from h) (by decide)
  | .v i, X, sc, fc, W, o, e, h => by
    cases e with
    | Name x pos =>
      obtain ⟨h1, h2, h3, h4⟩ := o.nm (show nmB cf sc i x = true from h)
      exact plT ((pe_var h1 h2 h3 h4).imp fun σ H Q q => sem_v q) (fun _ => rfl)
    | _ => exact nomatch h
  | .frz i, X, sc, fc, W, o, e, h => by
    cases e with
    | Name x pos =>
      obtain ⟨h1, h2, h3, h4⟩ := o.nm (show nmB cf sc i x = true from h)
      exact plT ((pe_var h1 h2 h3 h4).imp fun σ H Q q => sem_frz q) (fun _ => rfl)
    | _ => exact nomatch h
  | .tk i, X, sc, fc, W, o, e, h => by
    cases e with
    | Name x pos =>
      obtain ⟨h1, h2, h3, h4⟩ := o.nm (show nmB cf sc i x = true from h)
      exact plT ((pe_var h1 h2 h3 h4).imp fun σ H Q q => sem_tk q) (fun _ => rfl)
    | _ => exact nomatch h
  | .oix i b, X, sc, fc, W, o, e, h => by
    cases e with
    | Subscript l r pos =>
      cases l with
      | Name x p =>
        have h : (nmB cf sc i x && plainB r && ckE cf sc fc b r) = true := h
        simp only [Bool.and_eq_true] at h
        obtain ⟨h1, h2, h3, h4⟩ := o.nm h.1.1
        exact plT ((pe_ix (ix_list.or ix_tup) (pe_var h1 h2 h3 h4) (okE b o r h.2).1 (plainOf h.1.2)).imp fun σ H Q q => sem_oix q) (fun _ => rfl)
      | _ => exact nomatch h
    | _ => exact nomatch h
  | .popi i b, X, sc, fc, W, o, e, h => by
    cases e with
    | Call y args kws pos =>
      match y, args, kws, h with
      | .Attribute (.Name x px) m ap, [e], [], h =>
        have h : (nmB cf sc i x && m == ("pop" : Str) && ap.endLine == pos.line && argB e && ckE cf sc fc b e) = true := h
        simp only [Bool.and_eq_true] at h
        obtain ⟨⟨⟨⟨h1, h2⟩, h3⟩, h4⟩, h5⟩ := h
        obtain ⟨v1, v2, v3, v4⟩ := o.nm h1
        have em : m = ("pop" : Str) := by simpa using h2
        subst em
        exact plT ((pe_bm PySem.F.plainAttrs_list PySem.F.slot_list_pop PySem.F.type_list_pop mt_popAt (pe_var v1 v2 v3 v4) (pa_cons (okE b o e h5).1 pa_nil (starOf h4)) rfl (fewP h4) h3 (starOf h4) rfl).imp fun σ H Q q => sem_popi q) (fun _ => rfl)
    | _ => exact nomatch h
  | .dic0, X, sc, fc, W, o, e, h => by
    cases e with
    | Dict ks vs pos =>
      match ks, vs, h with
      | [], [], _ => exact plT (pe_dnewK.imp fun σ H Q q => sem_dic0 q) (fun _ => rfl)
    | _ => exact nomatch h
  | .oadd a i, X, sc, fc, W, o, e, h => by
    cases e with
    | BinOp l p r pos =>
      cases p with
      | Add =>
        cases r with
        | Name x p2 =>
          have h : (nmB cf sc i x && ckE cf sc fc a l) = true := h
          simp only [Bool.and_eq_true] at h
          obtain ⟨h1, h2, h3, h4⟩ := o.nm h.1
          exact plT ((pe_op op_cat (okE a o l h.2).1 (pe_var h1 h2 h3 h4)).imp fun σ H Q q => sem_oadd q) (fun _ => rfl)
        | _ => exact nomatch h
      | _ => exact nomatch h
    | _ => exact nomatch h
  | .olen i, X, sc, fc, W, o, e, h => by
    cases e with
    | Call f args kws pos =>
      cases f with
      | Name y p =>
        match args, kws, h with
        | [.Name x p2], [], h =>
          have h : ((y == ("len" : Str) && glB sc y) && nmB cf sc i x) = true := h
          simp only [Bool.and_eq_true] at h
          obtain ⟨h1, h2, h3, h4⟩ := o.nm h.2
          have ey : y = ("len" : Str) := by simpa using h.1.1
          subst ey
          have hb : bootBuiltins "len" = some (.builtin "len") := bi_boot .len
          exact plT ((pe_callB (r := rLen2 X.K) call_len_seq (o.gl h.1.2) (o.blt (bi_mem .len)) hb (pa_cons (pe_var h1 h2 h3 h4) pa_nil)).imp fun σ H Q q => sem_olen q) (fun _ => rfl)
      | _ => exact nomatch h
    | _ => exact nomatch h
  | .peek a, X, sc, fc, W, o, e, h => by
    have h : (pkB e && ckE cf sc fc a e) = true := h
    rw [Bool.and_eq_true] at h
    obtain ⟨pa, ta⟩ := okE a o e h.2
    exact ⟨pa.imp fun σ H Q q => sem_peek q, ta.imp fun σ H Q q => sem_peekT q⟩
  | .olst i, X, sc, fc, W, o, e, h => by
    cases e with
    | Call f args kws pos =>
      cases f with
      | Name y p =>
        match args, kws, h with
        | [.Name x p2], [], h =>
          have h : ((y == ("list" : Str) && glB sc y) && nmB cf sc i x) = true := h
          simp only [Bool.and_eq_true] at h
          obtain ⟨h1, h2, h3, h4⟩ := o.nm h.2
          have ey : y = ("list" : Str) := by simpa using h.1.1
          subst ey
          have hb : bootBuiltins "list" = some (.type "list") := bi_boot .list
          exact plT ((pe_callTy call_list_of (o.gl h.1.2) (o.blt (bi_mem .list)) hb (pa_cons (pe_var h1 h2 h3 h4) pa_nil)).imp fun σ H Q q => sem_olst q) (fun _ => rfl)
      | _ => exact nomatch h
    | _ => exact nomatch h
  | .skey a i, X, sc, fc, W, o, e, h => by
    cases e with
    | Call f args kws pos =>
      cases f with
      | Name z p =>
        match args, kws, h with
        | [e], [⟨some n, .Lambda prm b scope lp, kp⟩], h =>
          have h : (z == ("sorted" : Str) && glB sc z && n == ("key" : Str) && cf.lm && fc.isNone && lamB cf sc i prm b scope && argB e && ckE cf sc fc a e) = true := h
          simp only [Bool.and_eq_true] at h
          obtain ⟨⟨⟨⟨⟨⟨⟨h1, h2⟩, h3⟩, h4⟩, h5⟩, h6⟩, h7⟩, h8⟩ := h
          have ez : z = ("sorted" : Str) := by simpa using h1
          have en : n = ("key" : Str) := by simpa using h3
          subst ez en
          have ef : fc = none := by
            cases fc with
            | none => rfl
            | some _ => cases h5
          subst ef
          unfold lamB at h6
          split at h6
          · rename_i x y hk
            simp only [Bool.and_eq_true] at h6
            obtain ⟨⟨⟨⟨k1, k2⟩, k3⟩, k4⟩, k5⟩ := h6
            have ex : x = ("row" : Str) := by simpa using k1
            subst ex
            obtain ⟨j, k, ps, rfl⟩ := keyB_e hk
            obtain ⟨pa, rfl⟩ := keyArgs_e k2
            obtain ⟨hd, c, P, hc, TB, hm, hu⟩ := o.lam rfl h4
            exact plT ((pe_skey (T := xo.T) (o.gl h2) (o.blt (bi_mem .sorted)) (o.blt (bi_mem .abs)) (okE a o e h8).1 (starOf h7) TB hc hm hu (by rw [o.hsc]; exact keyScope_by k5) (key_def _ _ _) (fun q cl pm cv ctv v => key_bind pa q _ scope cl pm cv ctv v) (by rw [o.hN]; exact atB_e k3) hd o.m.units (by decide) (okN_d k4).1 (okN_d k4).2.1).imp fun σ H Q q => sem_skey q) (fun _ => rfl)
          · cases h6
      | _ => exact nomatch h
    | _ => exact nomatch h
  | .gl k, X, sc, fc, W, o, e, h => by
    cases e with
    | Name x pos =>
      have h : (atB cf.gx k x && gnB sc x) = true := h
      unfold gnB at h
      simp only [Bool.and_eq_true] at h
      refine ⟨⟨fun pins s σ H Q I q => ?_⟩, ⟨fun pins s σ H Q I q => ?_⟩⟩
      · cases hd : G[k]? with
        | none => exact (sem_gl0 hd q).elim
        | some d =>
          obtain ⟨v, u, g1, g2, g3⟩ := o.m.glb k x d (atB_e h.1) hd
          exact (pe_glob (o.gl h.2.1) g1 g2 (okN_d h.2.2).1).run pins s σ H Q I (sem_gl hd q g3)
      · cases hd : G[k]? with
        | none => exact (sem_gl0 hd (sem_truth q)).elim
        | some d =>
          obtain ⟨v, u, g1, g2, g3⟩ := o.m.glb k x d (atB_e h.1) hd
          exact (pt_truth (pe_glob (pos := pos) (o.gl h.2.1) g1 g2 (okN_d h.2.2).1) (fun _ => rfl)).run pins s σ H Q I (sem_gl hd (sem_truth q) g3)
    | _ => exact nomatch h
  | .bin op a b, X, sc, fc, W, o, e, h => by
    cases e with
    | BinOp l p r pos =>
      have h : ((opB op == p && ckE cf sc fc a l) && ckE cf sc fc b r) = true := h
      simp only [Bool.and_eq_true] at h
      have ep : opB op = p := by simpa using h.1.1
      subst ep
      exact plT ((pe_op (bin_ok op) (okE a o l h.1.2).1 (okE b o r h.2).1).imp fun σ H Q q => sem_bin q) (fun _ => rfl)
    | _ => exact nomatch h
  | .neg a, X, sc, fc, W, o, e, h => by
    cases e with
    | UnaryOp p l pos =>
      cases p with
      | USub => exact plT ((pe_un un_neg (okE a o l h).1).imp fun σ H Q q => sem_neg q) (fun _ => rfl)
      | _ => exact nomatch h
    | _ => exact nomatch h
  | .no a, X, sc, fc, W, o, e, h => by
    cases e with
    | UnaryOp p l pos =>
      cases p with
      | Not => exact ⟨(pe_notT (okE a o l h).1).imp fun σ H Q q => sem_no q, (pt_not (okE a o l h).2).imp fun σ H Q q => sem_noT q⟩
      | _ => exact nomatch h
    | _ => exact nomatch h
  | .cmp op a b, X, sc, fc, W, o, e, h => by
    cases e with
    | Compare l ops rs pos =>
      match ops, rs, h with
      | [p], [r], h =>
        have h : (((opC op == p && !behindInMarks p r) && ckE cf sc fc a l) && ckE cf sc fc b r) = true := h
        simp only [Bool.and_eq_true, Bool.not_eq_true'] at h
        have ep : opC op = p := by simpa using h.1.1.1
        subst ep
        exact ⟨(pe_cmpR (cmp_ok o.m.units op) (okE a o l h.1.2).1 (okE b o r h.2).1 h.1.1.2).imp fun σ H Q q => sem_cmp q, (pt_cmpR (cmp_ok o.m.units op) (okE a o l h.1.2).1 (okE b o r h.2).1 h.1.1.2).imp fun σ H Q q => sem_cmpT q⟩
    | _ => exact nomatch h
  | .chn op op2 a b c, X, sc, fc, W, o, e, h => by
    cases e with
    | Compare l ops rs pos =>
      match ops, rs, h with
      | [p, p2], [r, t], h =>
        have h : (((((opC op == p && opC op2 == p2) && !lastMarks [p, p2] [r, t]) && ckE cf sc fc a l) && ckE cf sc fc b r) && ckE cf sc fc c t) = true := h
        simp only [Bool.and_eq_true, Bool.not_eq_true'] at h
        obtain ⟨⟨⟨⟨⟨k1, k2⟩, k3⟩, k4⟩, k5⟩, k6⟩ := h
        have ep : opC op = p := by simpa using k1
        have ep2 : opC op2 = p2 := by simpa using k2
        subst ep ep2
        exact ⟨(pe_chain (cmp_ok o.m.units op) (cmp_ok o.m.units op2) (okE a o l k4).1 (okE b o r k5).1 (okE c o t k6).1 k3).imp fun σ H Q q => sem_chn q,
          (pt_chain (cmp_ok o.m.units op) (cmp_ok o.m.units op2) (okE a o l k4).1 (okE b o r k5).1 (okE c o t k6).1 k3).imp fun σ H Q q => sem_chnT q⟩
    | _ => exact nomatch h
  | .and a b, X, sc, fc, W, o, e, h => by
    cases e with
    | BoolOp op es pos =>
      cases op with
      | Or => exact nomatch h
      | And =>
        match es, h with
        | [l, r], h =>
          have h : (ckE cf sc fc a l && ckE cf sc fc b r) = true := h
          rw [Bool.and_eq_true] at h
          obtain ⟨pa, ta⟩ := okE a o l h.1
          obtain ⟨pb, tb⟩ := okE b o r h.2
          exact ⟨(pe_andT pa (pe_one pb)).imp fun σ H Q q => sem_and q, (pw_and ta (pw_and1 tb)).pt.imp fun σ H Q q => sem_andT q⟩
        | l :: r :: u :: us, h =>
          have h : (ckE cf sc fc a l && ckE cf sc fc b (.BoolOp .And (r :: u :: us) pos)) = true := h
          rw [Bool.and_eq_true] at h
          obtain ⟨pa, ta⟩ := okE a o l h.1
          obtain ⟨pb, tb⟩ := okE b o _ h.2
          exact ⟨(pe_andT pa pb).imp fun σ H Q q => sem_and q, (pw_and ta (pt_pw tb)).pt.imp fun σ H Q q => sem_andT q⟩
        | [l], h =>
          have h : (ckE cf sc fc a l && false) = true := h
          rw [Bool.and_eq_true] at h
          exact nomatch h.2
    | _ => exact nomatch h
  | .or a b, X, sc, fc, W, o, e, h => by
    cases e with
    | BoolOp op es pos =>
      cases op with
      | And => exact nomatch h
      | Or =>
        match es, h with
        | [l, r], h =>
          have h : (ckE cf sc fc a l && ckE cf sc fc b r) = true := h
          rw [Bool.and_eq_true] at h
          obtain ⟨pa, ta⟩ := okE a o l h.1
          obtain ⟨pb, tb⟩ := okE b o r h.2
          exact ⟨(pe_orT pa (pe_one pb)).imp fun σ H Q q => sem_or q, (pw_or ta (pw_or1 tb)).pt.imp fun σ H Q q => sem_orT q⟩
        | l :: r :: u :: us, h =>
          have h : (ckE cf sc fc a l && ckE cf sc fc b (.BoolOp .Or (r :: u :: us) pos)) = true := h
          rw [Bool.and_eq_true] at h
          obtain ⟨pa, ta⟩ := okE a o l h.1
          obtain ⟨pb, tb⟩ := okE b o _ h.2
          exact ⟨(pe_orT pa pb).imp fun σ H Q q => sem_or q, (pw_or ta (pt_pw tb)).pt.imp fun σ H Q q => sem_orT q⟩
        | [l], h =>
          have h : (ckE cf sc fc a l && false) = true := h
          rw [Bool.and_eq_true] at h
          exact nomatch h.2
    | _ => exact nomatch h
  | .ife c a b, X, sc, fc, W, o, e, h => by
    cases e with
    | IfExp t x y pos =>
      have h : ((ckE cf sc fc c t && ckE cf sc fc a x) && ckE cf sc fc b y) = true := h
      simp only [Bool.and_eq_true] at h
      obtain ⟨pc, tc⟩ := okE c o t h.1.1
      obtain ⟨pa, ta⟩ := okE a o x h.1.2
      obtain ⟨pb, tb⟩ := okE b o y h.2
      exact ⟨(pe_ifExp tc pa pb).imp fun σ H Q q => sem_ife q, (pt_ife tc ta tb).imp fun σ H Q q => sem_ifeT q⟩
    | _ => exact nomatch h
  | .tup es, X, sc, fc, W, o, e, h => by
    cases e with
    | Tuple ls k pos => exact plT ((pe_tup (okEs es o ls h)).imp fun σ H Q q => sem_tup q) (fun _ => rfl)
    | _ => exact nomatch h
  | .lst es, X, sc, fc, W, o, e, h => by
    cases e with
    | List ls pos => exact plT ((pe_lst (okEs es o ls h)).imp fun σ H Q q => sem_lst q) (fun _ => rfl)
    | _ => exact nomatch h
  | .ix a b, X, sc, fc, W, o, e, h => by
    cases e with
    | Subscript l r pos =>
      have h : ((plainB r && ckE cf sc fc a l) && ckE cf sc fc b r) = true := h
      simp only [Bool.and_eq_true] at h
      exact plT ((pe_ix (ix_list.or ix_tup) (okE a o l h.1.2).1 (okE b o r h.2).1 (plainOf h.1.1)).imp fun σ H Q q => sem_ix q) (fun _ => rfl)
    | _ => exact nomatch h
  | .sl a lo hi, X, sc, fc, W, o, e, h => by
    cases e with
    | Subscript l r pos =>
      cases r with
      | Slice x y z p2 =>
        cases z with
        | some _ => exact nomatch h
        | none =>
          have h : ((ckE cf sc fc a l && ckOp cf sc fc lo x) && ckOp cf sc fc hi y) = true := h
          simp only [Bool.and_eq_true] at h
          exact plT ((pe_slice (sl_list.or sl_tupA) (okE a o l h.1.1).1 (okOp lo o x h.1.2).1 (okOp hi o y h.2).1).imp fun σ H Q q => sem_sl q) (fun _ => rfl)
      | _ => exact nomatch h
    | _ => exact nomatch h
  | .rsl a, X, sc, fc, W, o, e, h => by
    cases e with
    | Subscript l r pos =>
      match r, h with
      | .Slice none none (some (.UnaryOp .USub (.Constant (.int 1) k p1) p2)) p3, h =>
        exact plT ((pe_revA (okE a o l h).1).imp fun σ H Q q => sem_rsl q) (fun _ => rfl)
    | _ => exact nomatch h
  | .isx a c, X, sc, fc, W, o, e, h => by
    cases e with
    | Call y args kws pos =>
      match y, args, kws, h with
      | .Name x p, [e, .Name y py], [], h =>
        have h : ((((((x == ("isinstance" : Str) && glB sc x) && y == c) && gnB sc y) && cf.cx.contains c) && argB e) && ckE cf sc fc a e) = true := h
        unfold gnB at h
        simp only [Bool.and_eq_true] at h
        obtain ⟨⟨⟨⟨⟨⟨h1, h2⟩, h3⟩, h4⟩, h5⟩, h6⟩, h7⟩ := h
        have ex : x = ("isinstance" : Str) := by simpa using h1
        have ey : y = c := by simpa using h3
        subst ex ey
        have hst := starOf (es := [.Name y py]) (env := X.env) h6
        have hm := o.blt (bi_mem (.isi .int))
        refine plT ?_ (fun _ => rfl)
        rcases o.m.cxs y (by simpa using h5) with ⟨e1, e2⟩ | ⟨C, e1, e2⟩
        · subst e1
          exact (pe_callB call_isY (o.gl h2) hm (bi_boot (.isi .int)) (pa_cons (okE a o e h7).1 (pa_cons (pe_bltn (v := .ty "ValueError") (o.gl h4.1) e2 (u := .type "ValueError") (by decide +kernel) rfl (by decide +kernel) (by decide +kernel)) pa_nil) hst) (bi_nm (.isi .int)).2 (bi_nm (.isi .int)).1 hst rfl).imp fun σ H Q q => sem_isx (.ty _) o.m.exf o.m.xofi (.inl ⟨rfl, rfl⟩) q
        · exact (pe_callB call_isY (o.gl h2) hm (bi_boot (.isi .int)) (pa_cons (okE a o e h7).1 (pa_cons (pe_glob (o.gl h4.1) e1 (show RelV (.ref C) (.ref C) from rfl) (okN_d h4.2).1) pa_nil) hst) (bi_nm (.isi .int)).2 (bi_nm (.isi .int)).1 hst rfl).imp fun σ H Q q => sem_isx (.own C) o.m.exf o.m.xofi (.inr ⟨C, rfl, e1, e2⟩) q
    | _ => exact nomatch h
  | .mkx c es, X, sc, fc, W, o, e, h => by
    cases e with
    | Call y args kws pos =>
      match y, kws, h with
      | .Name x p, [], h =>
        have h : (x == c && cf.ex.contains x && exNames.contains x && gnB sc x && len01 args && ckEs cf sc fc es args) = true := h
        unfold gnB at h
        simp only [Bool.and_eq_true] at h
        obtain ⟨⟨⟨⟨⟨h1, h2⟩, h3⟩, h4, h5⟩, h6⟩, h7⟩ := h
        have ex : x = c := by simpa using h1
        subst ex
        obtain ⟨C, g1, g2, g3, g4, g5⟩ := o.m.exc x (by simpa using h2)
        refine plT ?_ (fun _ => rfl)
        match args, es, h6, h7 with
        | [], .nil, _, _ => exact (pe_mk (pmk_own0 PySem.F.excBase_ValueError g2 g1 g3 (raises_own g4 g5) (o.gl h4) (okN_d h5).1)).imp fun σ H Q q => sem_mkx0 h3 g1 o.m.xofi q
        | [e], .cons a .nil, _, h7 =>
          have h7 : (argB e && ckE cf sc fc a e && true) = true := h7
          simp only [Bool.and_eq_true] at h7
          exact (pe_mk (SkE.pmk_own1 PySem.F.excBase_ValueError g2 g1 g3 (raises_own g4 g5) (o.gl h4) (okE a o e h7.1.2).1 (starOf h7.1.1) (okN_d h5).1)).imp fun σ H Q q => sem_mkx1 h3 g1 o.m.xofi q
        | [], .cons _ _, _, h7 => exact nomatch h7
        | [_], .nil, _, h7 => exact nomatch h7
        | [e], .cons a (.cons _ _), _, h7 =>
          have h7 : (argB e && ckE cf sc fc a e && false) = true := h7
          rw [Bool.and_false] at h7
          cases h7
    | _ => exact nomatch h
  | .mk1 c kw a, X, sc, fc, W, o, e, h => by
    cases e with
    | Call y args kws pos =>
      match y, h with
      | .Name x p, h =>
        have h : (x == c && cf.e1.contains x && exNames.contains x && gnB sc x && (match mkArg kw args kws (fieldOf c) with
          | some e => ckE cf sc fc a e
          | none => false)) = true := h
        unfold gnB at h
        simp only [Bool.and_eq_true] at h
        obtain ⟨⟨⟨⟨h1, h2⟩, h3⟩, h4, h5⟩, h6⟩ := h
        have ex : x = c := by simpa using h1
        subst ex
        obtain ⟨n, ⟨C, fI, fd, ps, hm, T, F, hb, hl, hk⟩, hr⟩ := o.m.e1 x (by simpa using h2)
        refine plT ?_ (fun _ => rfl)
        cases hq : mkArg kw args kws (fieldOf x) with
        | none => rw [hq] at h6; cases h6
        | some e =>
          rw [hq] at h6
          rcases mkArg_e hq with ⟨rfl, rfl, rfl, ha⟩ | ⟨rfl, rfl, kp, rfl⟩
          · exact (pe_mk (pmk_oex T.oex T.ini T.tin F hr hb .nil (fun _ _ _ _ _ _ _ z => z.elim) (o.gl h4) hm (pa_cons (okE a o e h6).1 pa_nil (starOf ha)) (okN_d h5).1 (starOf ha) rfl)).imp fun σ H Q q => sem_mk1 h3 hm o.m.xofi q
          · exact (pe_mk (pmk_oexK T.oex T.ini T.tin F hl hr hk (fun _ _ _ _ _ _ _ z => z.elim) (o.gl h4) hm (okE a o e h6).1 (okN_d h5).1)).imp fun σ H Q q => sem_mk1 h3 hm o.m.xofi q
    | _ => exact nomatch h
  | .fld a f, X, sc, fc, W, o, e, h => by
    cases e with
    | Attribute e n pos =>
      have h : (n == f && subB e && ckE cf sc fc a e) = true := h
      simp only [Bool.and_eq_true] at h
      obtain ⟨⟨h1, h2⟩, h3⟩ := h
      have en : n = f := by simpa using h1
      subst en
      refine plT ((pe_fld (okE a o e h3).1 ?_).imp fun σ H Q q => sem_fld o.m.exf o.m.xofi q) (fun _ => rfl)
      cases e <;> first | rfl | exact absurd (show false = true from h2) Bool.false_ne_true
    | _ => exact nomatch h
  | .bi f es, X, sc, fc, W, o, e, h => by
    cases e with
    | Call y args kws pos =>
      cases y with
      | Name x p =>
        cases kws with
        | cons _ _ => cases args <;> exact nomatch h
        | nil =>
          cases args with
          | nil => exact nomatch h
          | cons e ls =>
            have h : (((x == biName f && glB sc x) && ckIsi sc f ls) && ckEs cf sc fc es (if isIsi f = true then [e] else e :: ls)) = true := h
            simp only [Bool.and_eq_true] at h
            have ex : x = biName f := by simpa using h.1.1.1
            subst ex
            have hb := bi_boot f
            have hg := o.gl h.1.1.2
            have hm := o.blt (bi_mem f)
            obtain ⟨n1, n2⟩ := bi_nm f
            have gen : (∀ t, f ≠ .isi t) → ckEs cf sc fc es (e :: ls) = true → PE X (.Call (.Name (biName f) p) (e :: ls) [] pos) (tE X.K xo X.mg G Γ W (.bi f es)) := fun hf hc => by
              have ok := okEs es o (e :: ls) hc
              have bo := bi_ok (xo := xo) (mg := X.mg) (W := W) o.calm o.m.units f hf
              rcases biVal_cases f hf with ⟨id, ei⟩ | ⟨T, ei⟩
              · rw [ei] at hb bo
                exact (pe_callB bo hg hm hb ok n2 n1 (ckEs_star hc) (ckEs_tl hc)).imp fun σ H Q q => sem_bi q
              · rw [ei] at hb bo
                exact (pe_callTy bo hg hm hb ok n2 n1 (ckEs_star hc) (ckEs_tl hc)).imp fun σ H Q q => sem_bi q
            refine plT ?_ (fun _ => rfl)
            have h1 := h.1.2
            have h2 := h.2
            cases f with
            | isi t =>
              match es, ls, h1, h2 with
              | .cons a .nil, [.Name y py], h1, h2 =>
                have h1 : (y == Str.ofString (tyStr t) && glB sc y) = true := h1
                have h3 : (argB e && ckE cf sc fc a e && true) = true := h2
                rw [Bool.and_eq_true] at h1
                rw [Bool.and_eq_true, Bool.and_eq_true] at h3
                have ey : y = Str.ofString (tyStr t) := by simpa using h1.1
                subst ey
                obtain ⟨m1, m2⟩ := ty_nm t
                have hb2 := ty_boot t
                have ha := okE a o e h3.1.2
                have hst := starOf (es := [.Name (Str.ofString (tyStr t)) py]) (env := X.env) h3.1.1
                exact (pe_callB (isi_ok (xo := xo) t) hg hm hb (pa_cons ha.1 (pa_cons (pe_bltn (v := .ty (tyStr t)) (o.gl h1.2) (o.blt (ty_mem t)) hb2 rfl m2 m1) pa_nil) hst) n2 n1 hst rfl).imp fun σ H Q q => sem_isi q
              | .nil, [.Name y py], h1, h2 => exact nomatch h2
              | .cons a (.cons _ _), [.Name y py], h1, h2 =>
                have h2 : (argB e && ckE cf sc fc a e && false) = true := h2
                rw [Bool.and_eq_true] at h2
                exact nomatch h2.2
            | _ => exact gen (fun t z => nomatch z) h2
      | _ => exact nomatch h
    | _ => exact nomatch h
  | .lit_ it, X, sc, fc, W, o, e, h => by
    cases e with
    | Call y args kws pos =>
      match y, args, kws, h with
      | .Name f p, [g], [], h =>
        have h : (((f == ("list" : Str) && glB sc f) && litB it) && ckIt cf sc fc it true g) = true := h
        simp only [Bool.and_eq_true] at h
        obtain ⟨⟨⟨k1, k2⟩, k3⟩, k4⟩ := h
        have ef : f = ("list" : Str) := by simpa using k1
        subst ef
        have hml : X.mg "list" = none := o.blt (by decide +kernel)
        cases it with
        | zip st es =>
          cases g with
          | Call y2 args2 kws2 pos2 =>
            cases y2 with
            | Name x p2 =>
              cases args2 with
              | nil => exact nomatch k4
              | cons e ls =>
                have k4 : (((((true && x == ("zip" : Str)) && glB sc x) && kwB st kws2) && len12 ls) && ckEs cf sc fc es (e :: ls)) = true := k4
                simp only [Bool.and_eq_true] at k4
                obtain ⟨⟨⟨⟨⟨_, c2⟩, c3⟩, c4⟩, c5⟩, c6⟩ := k4
                have ex : x = ("zip" : Str) := by simpa using c2
                subst ex
                obtain ⟨j, p1, p3, ek⟩ := kwB_e c4
                subst ek
                have hm : X.mg "zip" = none := o.blt (by decide +kernel)
                have ok := okEs es o (e :: ls) c6
                match st, es, ls, k3, c5, c6, ok with
                | true, .cons a0 (.cons a1 .nil), [e2], _, _, c6, ok => exact plT ((pe_listZ o.calm (o.gl k2) hml (o.gl c3) hm ok (ckEs_star c6) (ckEs_tl c6)).imp fun σ H Q q => sem_lz rfl q) (fun _ => rfl)
                | true, .cons a0 (.cons a1 .nil), [e2, e3], _, _, c6, _ => exact absurd c6 (by simp [ckEs])
            | _ => exact nomatch k4
          | _ => exact nomatch k4
        | rng es =>
          cases g with
          | Call y2 args2 kws2 pos2 =>
            cases y2 with
            | Name x p2 =>
              cases kws2 with
              | cons _ _ => cases args2 <;> exact nomatch k4
              | nil =>
                cases args2 with
                | nil => exact nomatch k4
                | cons e ls =>
                  have k4 : (((x == ("range" : Str) && glB sc x) && len01 ls) && ckEs cf sc fc es (e :: ls)) = true := k4
                  simp only [Bool.and_eq_true] at k4
                  obtain ⟨⟨⟨c2, c3⟩, c5⟩, c6⟩ := k4
                  have ex : x = ("range" : Str) := by simpa using c2
                  subst ex
                  have hm : X.mg "range" = none := o.blt (by decide +kernel)
                  match es, ls, k3, c5, c6 with
                  | .cons a .nil, [], _, _, c6 =>
                    have c7 : ((argB e && ckE cf sc fc a e) && true) = true := c6
                    simp only [Bool.and_eq_true] at c7
                    exact plT ((pe_listRg o.calm (o.gl k2) hml (prg_1 (o.gl c3) hm (okE a o e c7.1.2).1 (starOf c7.1.1))).imp fun σ H Q q => sem_lr q) (fun _ => rfl)
                  | .cons a .nil, [_], _, _, c6 => exact absurd c6 (by simp [ckEs])
            | _ => exact nomatch k4
          | _ => exact nomatch k4
        | _ => exact nomatch k3
    | _ => exact nomatch h
  | .call k es, X, sc, fc, W, o, e, h => by
    cases e with
    | Call y args kws pos =>
      cases y with
      | Name x p =>
        cases kws with
        | cons _ _ => cases args <;> exact nomatch h
        | nil =>
          cases args with
          | nil => exact nomatch h
          | cons e ls =>
            have h : (((atB cf.fx k x && gnB sc x) && ckEs cf sc fc es (e :: ls)) && (kwOf cf k).isNone) = true := h
            unfold gnB at h
            simp only [Bool.and_eq_true] at h
            obtain ⟨h, hk0⟩ := h
            have ok := okEs es o (e :: ls) h.2
            have run : PE X (.Call (.Name x p) (e :: ls) [] pos) (tE X.K xo X.mg G Γ W (.call k es)) := by
              obtain ⟨f, hf, n, hcal, g2⟩ := o.m.fun_ k x (atB_e h.1.1)
              rw [Option.isNone_iff_eq_none.mp hk0] at hcal
              obtain ⟨a, fd, ps, dvs, ds, sp0, g1, g3, g4, g5, g6, g7⟩ := hcal
              exact (pe_callSD g1 g2 (o.gl h.1.2.1) g3 g4 g5 g6 (fun σ => passAt o.tk σ) ok (okN_d h.1.2.2).1 (ckEs_star h.2) (ckEs_tl h.2)).imp fun σ H Q q => callee_es g7 (sem_call hf q)
            exact plT run (fun _ => rfl)
      | _ => exact nomatch h
    | _ => exact nomatch h
  | .call2 i k1 k2 es, X, sc, fc, W, o, e, h => by
    cases e with
    | Call y args kws pos =>
      match y, args, kws, h with
      | .Subscript (.List [.Name x1 p1, .Name x2 p2] pl) (.Name z pz) ps, e :: ls, [], h =>
        have h : (((((atB cf.fx k1 x1 && gnB sc x1) && (atB cf.fx k2 x2 && gnB sc x2)) && nmB cf sc i z) && ckEs cf sc fc es (e :: ls)) && (kwOf cf k1).isNone && (kwOf cf k2).isNone) = true := h
        unfold gnB at h
        simp only [Bool.and_eq_true] at h
        obtain ⟨⟨⟨⟨⟨⟨h1, h2⟩, h3, h4⟩, h5⟩, h6⟩, h7⟩, h8⟩ := h
        obtain ⟨v1, v2, v3, v4⟩ := o.nm h5
        have ok := okEs es o (e :: ls) h6
        refine plT ?_ (fun _ => rfl)
        obtain ⟨f, hf, n, hcal, g2⟩ := o.m.fun_ k1 x1 (atB_e h1)
        rw [Option.isNone_iff_eq_none.mp h7] at hcal
        obtain ⟨a, fd, ps1, dvs, ds, sp0, g1, g3, g4, g5, g6, g7⟩ := hcal
        obtain ⟨f', hf', n', hcal', g2'⟩ := o.m.fun_ k2 x2 (atB_e h3)
        rw [Option.isNone_iff_eq_none.mp h8] at hcal'
        obtain ⟨a', fd', ps1', dvs', ds', sp0', g1', g3', g4', g5', g6', g7'⟩ := hcal'
        refine pe_call2 (o.gl h2.1) g3 (okN_d h2.2).1 (o.gl h4.1) g3' (okN_d h4.2).1 v1 v2 v3 v4 g1 g2 g4 g5 g6 g1' g2' g4' g5' g6' (fun σ => passAt o.tk σ) ok (ckEs_star h6) (ckEs_tl h6) fun σ H Q q => ?_
        obtain ⟨w, w1, w2, w3⟩ := sem_call2 q (.ref a) (.ref a')
        refine ⟨w, w1, w2, fun p hp => ?_⟩
        rcases w2 with rfl | rfl
        · exact callee_es g7 (sem_call hf (w3 p hp))
        · exact callee_es g7' (sem_call hf' (w3 p hp))
    | _ => exact nomatch h
  | .callo k i es, X, sc, fc, W, o, e, h => by
    cases e with
    | Call y args kws pos =>
      match y, args, kws, h with
      | .Name x p, .Name z pz :: ls, [], h =>
        have h : ((((atB cf.fx k x && gnB sc x) && nmB cf sc i z) && ckEs cf sc fc es ls) && (kwOf cf k).isNone) = true := h
        unfold gnB at h
        simp only [Bool.and_eq_true] at h
        obtain ⟨h, hk0⟩ := h
        obtain ⟨h1, h2, h3, h4⟩ := o.nm h.1.2
        have ok := okEs es o ls h.2
        refine plT ?_ (fun _ => rfl)
        obtain ⟨f, hf, n, hcal, g2⟩ := o.m.fun_ k x (atB_e h.1.1.1)
        rw [Option.isNone_iff_eq_none.mp hk0] at hcal
        obtain ⟨a, fd, ps, dvs, ds, sp0, g1, g3, g4, g5, g6, g7⟩ := hcal
        exact (pe_callSD g1 g2 (o.gl h.1.1.2.1) g3 g4 g5 g6 (fun σ => passAt o.tk σ) (pa_cons (pe_var h1 h2 h3 h4) ok) (okN_d h.1.1.2.2).1 rfl (ckEs_any h.2)).imp fun σ H Q q => callee_own g7 (sem_callo hf q)
    | _ => exact nomatch h
  | .callk k es a, X, sc, fc, W, o, e, h => by
    cases e with
    | Call y args kws pos =>
      match y, args, kws, h with
      | .Name x p, e :: ls, [⟨some n, ea, kp⟩], h =>
        have h : ((((atB cf.fx k x && gnB sc x) && kwOf cf k == some n) && ckEs cf sc fc es (e :: ls)) && ckE cf sc fc a ea) = true := h
        unfold gnB at h
        simp only [Bool.and_eq_true] at h
        obtain ⟨⟨⟨⟨h1, h2⟩, h3⟩, h4⟩, h5⟩ := h
        have ok := okEs es o (e :: ls) h4
        have oka := (okE a o ea h5).1
        refine plT ?_ (fun _ => rfl)
        obtain ⟨f, hf, m, hcal, g2⟩ := o.m.fun_ k x (atB_e h1)
        rw [show kwOf cf k = some n from by simpa using h3] at hcal
        obtain ⟨a0, fd, ps, np, g, sp0, g1, g3, g4, g5, g6, g7⟩ := hcal
        exact (pe_callND g1 g2 (o.gl h2.1) g3 g4 g5 (fun σ => passAt o.tk σ) ok (pk_cons oka pk_nil) rfl rfl (okN_d h2.2).1 (ckEs_star h4) (by
          rw [show backTo pos (starEach (e :: ls) X.env) = (false, eval e X.env) :: backTo pos (starEach ls X.env) by rw [ckEs_star h4]; rfl]
          show ((false || (backTo pos (starEach ls X.env)).any (·.1)) || false) = false
          rw [ckEs_tl h4]
          rfl)).imp fun σ H Q q => callee_k g7 (sem_callk hf g6 q)
    | _ => exact nomatch h
  | .comp x vs g it c, X, sc, fc, W, o, e, h => by
    cases e with
    | ListComp elt gens scope pos =>
      match gens, h with
      | [⟨tg, iter, ifs, 0⟩], h =>
        have h : (blkC cf.N sc scope (ownOf cf.N vs) && (ownOf cf.N vs).map (·.2) == vs && (tgS g).all (fun i => vs.contains i) && ckTg cf (relS scope sc) (some scope) g tg && ckIt cf sc fc it (isTup tg) iter &&
          ckE cf (relS scope sc) (some scope) x elt && ckOp cf (relS scope sc) (some scope) c ifs.head? && len01 ifs) = true := h
        simp only [Bool.and_eq_true] at h
        obtain ⟨⟨⟨⟨⟨⟨⟨k1, k2⟩, k3⟩, k4⟩, k5⟩, k6⟩, k7⟩, k8⟩ := h
        have e2 : (ownOf cf.N vs).map (·.2) = vs := by simpa using k2
        have hg : ∀ i ∈ tgS g, i ∈ vs := fun i hi => by
          have := List.all_eq_true.mp k3 i hi
          simpa using this
        have hi := okIt it o tg iter k5
        have hb : BlkOk X.N X.env.scope scope (ownOf cf.N vs) := by
          rw [o.hN, o.hsc]
          exact blkOk_by k1
        refine plT ?_ (fun _ => rfl)
        have main := pe_lc (pos := pos) (g := gT X.K xo g) (tt := tOT X.K xo X.mg G Γ W0 c) (te := tE X.K xo X.mg G Γ W0 x) o.calm (by rw [o.hN]; exact o.nd) hi.1 hb (fun s H C cl fp => pg_ok (o.blk scope s H C cl fp) g tg k4) (fun s H C cl fp => okTs c (o.blk scope s H C cl fp) ifs k7 k8) (fun s H C cl fp => (okE x (o.blk scope s H C cl fp) elt k6).1) hi.2
        refine main.imp fun σ H Q q => ?_
        rw [e2]
        exact comp_ok hg q
    | _ => exact nomatch h
theorem okEs : ∀ (as : Exs) {X : Cx} {sc : Scope} {fc : Option Scope} {W : WX} (o : XOk X cf sc fc G Γ xo W) (es : List Expr), ckEs cf sc fc as es = true → PA X es (tEs X.K xo X.mg G Γ W as)
  | .nil, X, sc, fc, W, o, [], _ => pa_nil.imp fun σ H Q q => sem_nil q
  | .cons a as, X, sc, fc, W, o, e :: es, h => by
    have h' : (argB e && ckE cf sc fc a e && ckEs cf sc fc as es) = true := h
    simp only [Bool.and_eq_true] at h'
    exact (pa_cons (okE a o e h'.1.2).1 (okEs as o es h'.2) (starOf h'.1.1)).imp fun σ H Q q => sem_cons q
  | .nil, _, _, _, _, _, _ :: _, h => nomatch h
  | .cons _ _, _, _, _, _, _, [], h => nomatch h
theorem okOp : ∀ (p : Op) {X : Cx} {sc : Scope} {fc : Option Scope} {W : WX} (o : XOk X cf sc fc G Γ xo W) (e : Option Expr), ckOp cf sc fc p e = true → PO X e (tO X.K xo X.mg G Γ W p) ∧ ∀ t, e = some t → PTs X [t] (tOT X.K xo X.mg G Γ W p)
  | .non, X, sc, fc, W, o, none, _ => ⟨po_none.imp fun σ H Q q => sem_non q, fun _ z => nomatch z⟩
  | .som a, X, sc, fc, W, o, some e, h => by
    obtain ⟨p, t⟩ := okE a o e h
    refine ⟨(po_some p).imp fun σ H Q q => sem_op q, fun u z => ?_⟩
    have z' := Option.some.inj z
    subst z'
    exact pts_one t
  | .non, _, _, _, _, _, some _, h => nomatch h
  | .som _, _, _, _, _, _, none, h => nomatch h
theorem okTs : ∀ (c : Op) {X : Cx} {sc : Scope} {fc : Option Scope} {W : WX} (o : XOk X cf sc fc G Γ xo W) (ifs : List Expr), ckOp cf sc fc c ifs.head? = true → len01 ifs = true → PTs X ifs (tOT X.K xo X.mg G Γ W c)
  | .non, X, sc, fc, W, o, [], _, _ => pts_nil.imp fun σ H Q q => sem_yes q
  | .som a, X, sc, fc, W, o, [t], h, _ => pts_one (okE a o t h).2
  | .som _, _, _, _, _, _, [], h, _ => nomatch h
  | .non, _, _, _, _, _, _ :: _, h, _ => nomatch h
  | .som _, _, _, _, _, _, _ :: _ :: _, _, h => nomatch h
theorem okIt : ∀ (it : It) {X : Cx} {sc : Scope} {fc : Option Scope} {W : WX} (o : XOk X cf sc fc G Γ xo W) (tg e : Expr), ckIt cf sc fc it (isTup tg) e = true → PI X tg e (tI X.K xo X.mg G Γ W it) ∧ ∀ x, foldedSetIterable e X.env x = pure x
  | .seq a, X, sc, fc, W, o, tg, e, h => by
    have h : (argB e && ckE cf sc fc a e) = true := h
    rw [Bool.and_eq_true] at h
    exact ⟨(pi_seq (okE a o e h.2).1).imp fun σ H Q q => sem_seq q, foldOf h.1⟩
  | .zip st es, X, sc, fc, W, o, tg, e, h => by
    cases e with
    | Call y args kws pos =>
      cases y with
      | Name x p =>
        cases args with
        | nil => exact nomatch h
        | cons e ls =>
          have h : ((((isTup tg && x == ("zip" : Str) && glB sc x) && kwB st kws) && len12 ls) && ckEs cf sc fc es (e :: ls)) = true := h
          simp only [Bool.and_eq_true] at h
          obtain ⟨⟨⟨⟨⟨k1, k2⟩, k3⟩, k4⟩, k5⟩, k6⟩ := h
          have ex : x = ("zip" : Str) := by simpa using k2
          subst ex
          obtain ⟨j, p1, p2, ek⟩ := kwB_e k4
          subst ek
          have hm : X.mg "zip" = none := o.blt (by decide +kernel)
          have ok := okEs es o (e :: ls) k6
          refine ⟨?_, fun _ => rfl⟩
          cases tg with
          | Tuple elts kk tpos =>
            match ls, k5, es, k6, ok with
            | [e2], _, .cons a0 (.cons a1 .nil), k6, ok => exact (pi_z2 (o.gl k3) hm ok (ckEs_star k6) (ckEs_tl k6)).imp fun σ H Q q => sem_z2 rfl q
            | [e2, e3], _, .cons a0 (.cons a1 (.cons a2 .nil)), k6, ok => exact (pi_z3 (o.gl k3) hm ok (ckEs_star k6) (ckEs_tl k6)).imp fun σ H Q q => sem_z3 rfl q
            | [e2], _, .cons a0 .nil, k6, ok => exact absurd k6 (by simp [ckEs])
            | [e2], _, .cons a0 (.cons a1 (.cons _ _)), k6, ok => exact absurd k6 (by simp [ckEs])
            | [e2, e3], _, .cons a0 .nil, k6, ok => exact absurd k6 (by simp [ckEs])
            | [e2, e3], _, .cons a0 (.cons a1 .nil), k6, ok => exact absurd k6 (by simp [ckEs])
            | [e2, e3], _, .cons a0 (.cons a1 (.cons _ (.cons _ _))), k6, ok => exact absurd k6 (by simp [ckEs])
          | _ => exact nomatch k1
      | _ => exact nomatch h
    | _ => exact nomatch h
  | .enum it, X, sc, fc, W, o, tg, e, h => by
    cases it with
    | seq a =>
      cases e with
      | Call y args kws pos =>
        match y, args, kws, h with
        | .Name x p, [e], [], h =>
          have h : ((((isTup tg && x == ("enumerate" : Str)) && glB sc x) && argB e) && ckE cf sc fc a e) = true := h
          simp only [Bool.and_eq_true] at h
          obtain ⟨⟨⟨⟨k1, k2⟩, k3⟩, k4⟩, k5⟩ := h
          have ex : x = ("enumerate" : Str) := by simpa using k2
          subst ex
          refine ⟨?_, fun _ => rfl⟩
          cases tg with
          | Tuple elts kk tpos => exact (pi_en (o.gl k3) (o.blt (by decide +kernel)) (pa_cons (okE a o e k5).1 pa_nil (starOf k4)) (starOf k4)).imp fun σ H Q q => sem_en q
          | _ => exact nomatch k1
      | _ => exact nomatch h
    | _ => cases e <;> exact nomatch h
  | .rng es, X, sc, fc, W, o, tg, e, h => by
    cases e with
    | Call y args kws pos =>
      cases y with
      | Name x p =>
        cases kws with
        | cons _ _ => cases args <;> exact nomatch h
        | nil =>
          cases args with
          | nil => exact nomatch h
          | cons e ls =>
            have h : (((x == ("range" : Str) && glB sc x) && len01 ls) && ckEs cf sc fc es (e :: ls)) = true := h
            simp only [Bool.and_eq_true] at h
            obtain ⟨⟨⟨k2, k3⟩, k5⟩, k6⟩ := h
            have ex : x = ("range" : Str) := by simpa using k2
            subst ex
            have hm : X.mg "range" = none := o.blt (by decide +kernel)
            have ok := okEs es o (e :: ls) k6
            refine ⟨?_, fun _ => rfl⟩
            match ls, k5, es, k6, ok with
            | [], _, .cons a0 .nil, k6, ok => exact (pi_range1 (o.gl k3) hm ok (ckEs_star k6)).imp fun σ H Q q => sem_rng1 rfl q
            | [e2], _, .cons a0 (.cons a1 .nil), k6, ok =>
              have hs := ckEs_star (env := X.env) k6
              have k62 : ckEs cf sc fc (.cons a1 .nil) [e2] = true := by
                have k6' : ((argB e && ckE cf sc fc a0 e) && ckEs cf sc fc (.cons a1 .nil) [e2]) = true := k6
                rw [Bool.and_eq_true] at k6'
                exact k6'.2
              have hs2 := ckEs_star (env := X.env) k62
              exact (pi_range2 (o.gl k3) hm ok (by rw [hs, hs2]; rfl) hs2).imp fun σ H Q q => sem_rng2 rfl q
            | [], _, .cons a0 (.cons _ _), k6, ok => exact absurd k6 (by simp [ckEs])
            | [e2], _, .cons a0 .nil, k6, ok => exact absurd k6 (by simp [ckEs])
            | [e2], _, .cons a0 (.cons a1 (.cons _ _)), k6, ok => exact absurd k6 (by simp [ckEs])
      | _ => exact nomatch h
    | _ => exact nomatch h
  | .rev a, X, sc, fc, W, o, tg, e, h => by
    cases e with
    | Call y args kws pos =>
      match y, args, kws, h with
      | .Name x p, [e], [], h =>
        have h : (((x == ("reversed" : Str) && glB sc x) && argB e) && ckE cf sc fc a e) = true := h
        simp only [Bool.and_eq_true] at h
        obtain ⟨⟨⟨k2, k3⟩, k4⟩, k5⟩ := h
        have ex : x = ("reversed" : Str) := by simpa using k2
        subst ex
        exact ⟨(RT.pi_revA (o.gl k3) (o.blt (by decide +kernel)) (okE a o e k5).1 (starOf k4)).imp fun σ H Q q => sem_rev q, fun _ => rfl⟩
    | _ => exact nomatch h
end
end
end DL


set_option Elab.async false
set_option linter.all false
set_option maxRecDepth 100000
set_option maxHeartbeats 8000000
/-! DL18: statements. -/
namespace DL
open PySem PySem.Spec PyProof.Rows L2

section
variable (K : PySem.W.Frag) (xo : XO) (mg : Str → Option Value) (G : List D) (Γ : List Fn) (W : WX)
/-- what is wanted behind a statement -/
def PostS (B : FB) (F : Hp) (r : RS) (Q : Ends) : Prop := match r with
  | .nx e => ∀ σ' H' F', Rel K xo B F' σ' H' e → Same F F' → Q.nx σ' H'
  | .bk e => ∀ σ' H' F', Rel K xo B F' σ' H' e → Same F F' → Q.bk σ' H'
  | .ct e => ∀ σ' H' F', Rel K xo B F' σ' H' e → Same F F' → Q.ct σ' H'
  | .rt (.d d) e => ∀ v σ' H' F', Rel K xo B F' σ' H' e → Same F F' → Den K xo F' v d → Q.rt v H'
  | .rt (.fr ds) e => ∀ p vs σ' H' F', Rel K xo B F' σ' H' e → Same F F' → H' p = some (.lst vs) → F' p = none → DenAll K xo F' vs ds → B.mine p →
      (∀ (i : Nat) pp es, e[i]? = some (.own pp es) → σ'[i]? ≠ some (some (.ref p))) → Q.rt (.ref p) H'
  | .exn c ps e => ∀ cls dx σ' H' F', Rel K xo B F' σ' H' e → Same F F' → ExW K xo mg c ps cls dx H' F' → W cls dx σ' H'
  | .bad => False
def tS (s : Sx) : TS := fun Q σ H => ∃ B F e, Rel K xo B F σ H e ∧ PostS K xo mg W B F (evS G Γ s e) Q
def tSs (ss : Sxs) : TS := fun Q σ H => ∃ B F e, Rel K xo B F σ H e ∧ PostS K xo mg W B F (evSs G Γ ss e) Q
end

section
variable {K : PySem.W.Frag} {xo : XO} {mg : Str → Option Value} {G : List D} {Γ : List Fn} {W : WX} {B : FB} {σ : L2.St} {F F1 H : Hp} {e : Env} {Q : Ends} {α β : Type}
theorem PostS.sub {r : RS} (h : PostS K xo mg W B F r Q) (s : Same F F1) : PostS K xo mg W B F1 r Q := by
  cases r with
  | bad => exact h
  | nx e => exact fun σ' H' F' r1 s1 => h σ' H' F' r1 (s.trans s1)
  | bk e => exact fun σ' H' F' r1 s1 => h σ' H' F' r1 (s.trans s1)
  | ct e => exact fun σ' H' F' r1 s1 => h σ' H' F' r1 (s.trans s1)
  | exn c ps e => exact fun cls dx σ' H' F' r1 s1 x => h cls dx σ' H' F' r1 (s.trans s1) x
  | rt v e =>
    cases v with
    | d d => exact fun v σ' H' F' r1 s1 x => h v σ' H' F' r1 (s.trans s1) x
    | fr ds => exact fun p vs σ' H' F' r1 s1 => h p vs σ' H' F' r1 (s.trans s1)
theorem bindS {r : R α} {f : α → Env → RS} (h : PostS K xo mg W B F (r.thn f) Q) : PostX K xo mg W B σ F r fun a e1 F1 _ => PostS K xo mg W B F1 (f a e1) Q := by
  cases r with
  | bad => exact h
  | exn c ps e => exact fun cls dx H' F' r1 s1 x => h cls dx σ H' F' r1 s1 x
  | ok v e => exact fun H' F' r1 s1 => PostS.sub h s1
theorem tE_bindS {a : Ex} {f : DV → Env → RS} {T : V → Hp → Prop} (r : Rel K xo B F σ H e) (h : PostS K xo mg W B F ((evE G Γ a e).thn f) Q) (hf : ∀ x y e, x.fz = y.fz → f x e = f y e)
    (k : ∀ (x : D) e1 v H1 F1, Rel K xo B F1 σ H1 e1 → Same F F1 → Den K xo F1 v x → PostS K xo mg W B F1 (f (.d x) e1) Q → T v H1) : tE K xo mg G Γ W a σ H T := by
  refine ⟨B, F, e, r, ?_⟩
  cases q : evE G Γ a e with
  | bad => rw [q] at h; exact h.elim
  | exn c ps e1 => rw [q] at h; exact fun cls dx H' F' r1 s1 x => h cls dx σ H' F' r1 s1 x
  | ok x e1 =>
    rw [q] at h
    cases x with
    | d x => exact fun v H' F' r1 s1 x1 => k x e1 v H' F' r1 s1 x1 (PostS.sub h s1)
    | fr ds =>
      refine fun p vs H' F' r1 s1 hp hF x1 h0 ho => ?_
      have s2 := s1.trans (same_upd (o := HO.lst vs) hF)
      have h' : PostS K xo mg W B F (f (.d (.list ds)) e1) Q := by
        rw [← hf (.fr ds) (.d (.list ds)) e1 rfl]
        exact h
      exact k (.list ds) e1 (.ref p) H' (upd F' p (.lst vs)) (r1.freeze hF hp h0 ho) s2 (.lst upd_same (x1.mono (same_upd hF))) (PostS.sub h' s2)
theorem PostS.imp {r : RS} {Q' : Ends} (h : PostS K xo mg W B F r Q) (a : ∀ σ H, Q.nx σ H → Q'.nx σ H) (b : ∀ σ H, Q.bk σ H → Q'.bk σ H) (c : ∀ σ H, Q.ct σ H → Q'.ct σ H) (d : ∀ v H, Q.rt v H → Q'.rt v H) : PostS K xo mg W B F r Q' := by
  cases r with
  | bad => exact h
  | nx e => exact fun σ' H' F' r1 s1 => a _ _ (h σ' H' F' r1 s1)
  | bk e => exact fun σ' H' F' r1 s1 => b _ _ (h σ' H' F' r1 s1)
  | ct e => exact fun σ' H' F' r1 s1 => c _ _ (h σ' H' F' r1 s1)
  | exn _ _ e => exact h
  | rt v e =>
    cases v with
    | d x => exact fun v σ' H' F' r1 s1 x => d _ _ (h v σ' H' F' r1 s1 x)
    | fr ds => exact fun p vs σ' H' F' r1 s1 x1 x2 x3 x4 x5 => d _ _ (h p vs σ' H' F' r1 s1 x1 x2 x3 x4 x5)
/-! ### the readings -/
theorem sem_snil (h : tSs K xo mg G Γ W .nil Q σ H) : tNext Q σ H := by
  obtain ⟨B, F, e, r, h⟩ := h
  exact h σ H F r (Same.refl _)
theorem sem_scons {s : Sx} {ss : Sxs} (h : tSs K xo mg G Γ W (.cons s ss) Q σ H) : tSeq (tS K xo mg G Γ W s) (tSs K xo mg G Γ W ss) Q σ H := by
  obtain ⟨B, F, e, r, h⟩ := h
  have h : PostS K xo mg W B F (match evS G Γ s e with
    | .nx e1 => evSs G Γ ss e1
    | r => r) Q := h
  refine ⟨B, F, e, r, ?_⟩
  cases q : evS G Γ s e with
  | nx e1 =>
    rw [q] at h
    exact fun σ' H' F' r1 s1 => ⟨B, F', e1, r1, PostS.sub h s1⟩
  | bk e1 => rw [q] at h; exact h
  | ct e1 => rw [q] at h; exact h
  | rt v e1 =>
    rw [q] at h
    cases v with
    | d d => exact h
    | fr ds => exact h
  | exn c ps e1 => rw [q] at h; exact h
  | bad => rw [q] at h; exact h
theorem sem_asg {t : Tg} {a : Ex} (h : tS K xo mg G Γ W (.asg t a) Q σ H) : tE K xo mg G Γ W a σ H fun x H1 => gT K xo t x σ H1 Q.nx := by
  obtain ⟨B, F, e, r, h⟩ := h
  have h : PostS K xo mg W B F ((evE G Γ a e).thn fun x e1 => match bindT t x.fz e1 with
    | some e2 => .nx e2
    | none => .bad) Q := h
  refine tE_bindS r h (fun x y e q => by rw [q]) fun x e1 v H1 F1 r1 s1 dv hp => ?_
  have hp : PostS K xo mg W B F1 (match bindT t x e1 with
    | some e2 => .nx e2
    | none => .bad) Q := hp
  cases hb : bindT t x e1 with
  | none => rw [hb] at hp; exact hp.elim
  | some e2 =>
    rw [hb] at hp
    exact ⟨B, F1, e1, x, e2, r1, dv, hb, fun σ' r2 _ => hp σ' H1 F1 r2 (Same.refl _)⟩
theorem sem_spl {i j : Nat} {a : Ex} (h : tS K xo mg G Γ W (.spl i j a) Q σ H) : tE K xo mg G Γ W a σ H fun x H1 => gStar K i j x σ H1 Q.nx := by
  obtain ⟨B, F, e, r, h⟩ := h
  have h : PostS K xo mg W B F ((evE G Γ a e).thn fun x e1 => splD i j e1 x.fz) Q := h
  refine tE_bindS r h (fun x y e q => by rw [q]) fun x e1 v H1 F1 r1 s1 dv hp => ?_
  have hp : PostS K xo mg W B F1 (splD i j e1 x) Q := hp
  cases dv with
  | lst hF da =>
    cases da with
    | nil => exact hp.elim
    | cons d1 dr =>
      refine ⟨_, _, _, rfl, .inl (.inl (r1.sub _ _ hF)), fun p hp2 => ?_⟩
      have s2 := fun o : HO => same_upd (o := o) (r1.f0 hp2)
      have r2 := ((r1.laid hp2).setVal (i := i) (d1.mono (s2 _))).setVal (i := j) (v := .ref p) (.lst upd_same (dr.mono (s2 _)))
      exact hp _ _ _ r2 (s2 _)
  | _ => exact hp.elim
theorem sem_asgN {i : Nat} {a : Ex} (h : tS K xo mg G Γ W (.asg (.nm i) a) Q σ H) : tE K xo mg G Γ W a σ H fun x H1 => gName i x σ H1 Q.nx := by
  obtain ⟨B, F, e, r, h⟩ := h
  have h : PostS K xo mg W B F ((evE G Γ a e).thn fun x e1 => .nx (e1.set i (.val x.fz))) Q := h
  refine tE_bindS r h (fun x y e q => by rw [q]) fun x e1 v H1 F1 r1 s1 dv hp => ?_
  exact hp _ H1 F1 (r1.setVal dv) (Same.refl _)
theorem sem_own {i : Nat} {a : Ex} (h : tS K xo mg G Γ W (.own i a) Q σ H) : tE K xo mg G Γ W a σ H fun x H1 => gName i x σ H1 Q.nx := by
  obtain ⟨B, F, e, r, h⟩ := h
  have h : PostS K xo mg W B F ((evE G Γ a e).thn fun x e1 => match x with
    | .fr xs => .nx (e1.set i (.own false xs))
    | .d _ => .bad) Q := h
  refine ⟨B, F, e, r, ?_⟩
  cases q : evE G Γ a e with
  | bad => rw [q] at h; exact h
  | exn c ps e1 => rw [q] at h; exact fun cls dx H' F' r1 s1 x => h cls dx σ H' F' r1 s1 x
  | ok x e1 =>
    rw [q] at h
    cases x with
    | d x => exact h.elim
    | fr ds => exact fun p vs H' F' r1 s1 hp hF x1 h0 ho => h _ H' F' (r1.setOwn hp hF x1 h0 ho) s1
theorem sem_ret {a : Ex} (h : tS K xo mg G Γ W (.ret a) Q σ H) : tRet (tE K xo mg G Γ W a) Q σ H := by
  obtain ⟨B, F, e, r, h⟩ := h
  have h : PostS K xo mg W B F ((evE G Γ a e).thn fun x e1 => .rt x e1) Q := h
  refine ⟨B, F, e, r, ?_⟩
  cases q : evE G Γ a e with
  | bad => rw [q] at h; exact h
  | exn c ps e1 => rw [q] at h; exact fun cls dx H' F' r1 s1 x => h cls dx σ H' F' r1 s1 x
  | ok x e1 =>
    rw [q] at h
    cases x with
    | d x => exact fun v H' F' r1 s1 dv => h v σ H' F' r1 s1 dv
    | fr ds => exact fun p vs H' F' r1 s1 x1 x2 x3 x4 x5 => h p vs σ H' F' r1 s1 x1 x2 x3 x4 x5
theorem sem_retn (h : tS K xo mg G Γ W .retn Q σ H) : tRetN Q σ H := by
  obtain ⟨B, F, e, r, h⟩ := h
  exact h .non σ H F r (Same.refl _) .non
theorem sem_ex {a : Ex} (h : tS K xo mg G Γ W (.ex a) Q σ H) : tDrop (tE K xo mg G Γ W a) Q σ H := by
  obtain ⟨B, F, e, r, h⟩ := h
  have h : PostS K xo mg W B F ((evE G Γ a e).thn fun _ e1 => .nx e1) Q := h
  exact tE_bindS r h (fun x y e q => rfl) fun x e1 v H1 F1 r1 s1 dv hp => hp σ H1 F1 r1 (Same.refl _)
theorem sem_ifS {c : Ex} {a b : Sxs} (h : tS K xo mg G Γ W (.ife c a b) Q σ H) : tIfS (tT K xo mg G Γ W c) (tSs K xo mg G Γ W a) (tSs K xo mg G Γ W b) Q σ H := by
  obtain ⟨B, F, e, r, h⟩ := h
  have h : PostS K xo mg W B F ((evT G Γ c e).thn fun x e1 => if x then evSs G Γ a e1 else evSs G Γ b e1) Q := h
  refine ⟨B, F, e, r, PostX.imp (bindS h) fun x e1 F1 H1 r1 s1 hp => ?_⟩
  cases x with
  | true =>
    rw [if_pos rfl] at hp
    rw [if_pos rfl]
    exact ⟨B, F1, e1, r1, hp⟩
  | false =>
    rw [if_neg Bool.false_ne_true] at hp
    rw [if_neg Bool.false_ne_true]
    exact ⟨B, F1, e1, r1, hp⟩
theorem sem_seti {i : Nat} {k a : Ex} (h : tS K xo mg G Γ W (.seti i k a) Q σ H) : tAsg (tE K xo mg G Γ W a) (gSub (tVar i) (tE K xo mg G Γ W k) rSetL) Q σ H := by
  obtain ⟨B, F, e, r, h⟩ := h
  have h : PostS K xo mg W B F ((evE G Γ a e).thn fun x e1 => match e1[i]? with
    | some (.own _ _) => (evE G Γ k e1).thn fun j e2 => match e2[i]?, j.fz with
      | some (.own p xs), .int n => match L2.ixN xs.length n with
        | some m => .nx (e2.set i (.own p (xs.set m x.fz)))
        | none => .bad
      | _, _ => .bad
    | _ => .bad) Q := h
  refine tE_bindS r h (fun x y e q => by rw [q]) fun x e1 v H1 F1 r1 s1 dv hp => ?_
  have hp : PostS K xo mg W B F1 (match e1[i]? with
    | some (.own _ _) => (evE G Γ k e1).thn fun j e2 => match e2[i]?, j.fz with
      | some (.own p xs), .int n => match L2.ixN xs.length n with
        | some m => .nx (e2.set i (.own p (xs.set m x)))
        | none => .bad
      | _, _ => .bad
    | _ => .bad) Q := hp
  cases q1 : e1[i]? with
  | none => rw [q1] at hp; exact hp.elim
  | some z1 =>
    rw [q1] at hp
    cases z1 with
    | un => exact hp.elim
    | val _ => exact hp.elim
    | own p0 xs0 =>
      obtain ⟨a0, vs0, g1, _⟩ := r1.own i p0 xs0 q1
      refine ⟨.ref a0, g1, ?_⟩
      have hp : PostS K xo mg W B F1 ((evE G Γ k e1).thn fun j e2 => match e2[i]?, j.fz with
        | some (.own p xs), .int n => match L2.ixN xs.length n with
          | some m => .nx (e2.set i (.own p (xs.set m x)))
          | none => .bad
        | _, _ => .bad) Q := hp
      refine tE_bindS r1 hp (fun x y e q => by rw [q]) fun j e2 w H2 F2 r2 s2 dw hp => ?_
      have hp : PostS K xo mg W B F2 (match e2[i]?, (DV.d j).fz with
        | some (.own p xs), .int n => match L2.ixN xs.length n with
          | some m => .nx (e2.set i (.own p (xs.set m x)))
          | none => .bad
        | _, _ => .bad) Q := hp
      cases q2 : e2[i]? with
      | none => rw [q2] at hp; exact hp.elim
      | some z2 =>
        rw [q2] at hp
        cases z2 with
        | un => exact hp.elim
        | val _ => exact hp.elim
        | own p1 xs1 =>
          cases j with
          | int n =>
            cases dw
            have hp : PostS K xo mg W B F2 (match L2.ixN xs1.length n with
              | some m => .nx (e2.set i (.own p1 (xs1.set m x)))
              | none => .bad) Q := hp
            obtain ⟨a1, vs1, k1, k2, k3, k4, _⟩ := r2.own i p1 xs1 q2
            have k1' := k1
            rw [g1] at k1
            injection k1 with k1
            injection k1 with k1
            injection k1 with k1
            subst k1
            cases em : L2.ixN xs1.length n with
            | none => rw [em] at hp; exact hp.elim
            | some m =>
              rw [em] at hp
              exact ⟨a0, vs1, n, m, rfl, rfl, k2, by rw [k4.length]; exact em, hp σ _ F2 (r2.write q2 g1 (k4.set m (dv.mono s2))) (Same.refl _)⟩
          | none => exact hp.elim
          | bool _ => exact hp.elim
          | str _ => exact hp.elim
          | list _ => exact hp.elim
          | tuple _ => exact hp.elim
          | dict _ => exact hp.elim
theorem sem_app {i : Nat} {a : Ex} (h : tS K xo mg G Γ W (.app i a) Q σ H) : tDrop (tBM K "list" rAppend (tVar i) (tCons (tE K xo mg G Γ W a) tNil)) Q σ H := by
  obtain ⟨B, F, e, r, h⟩ := h
  have h : PostS K xo mg W B F (match e[i]? with
    | some (.own _ _) => (evE G Γ a e).thn fun x e1 => match e1[i]? with
      | some (.own p xs) => if xs.length < lim then .nx (e1.set i (.own p (xs ++ [x.fz]))) else .bad
      | _ => .bad
    | _ => .bad) Q := h
  cases q1 : e[i]? with
  | none => rw [q1] at h; exact h.elim
  | some z1 =>
    rw [q1] at h
    cases z1 with
    | un => exact h.elim
    | val _ => exact h.elim
    | own p0 xs0 =>
      obtain ⟨a0, vs0, g1, g2, _⟩ := r.own i p0 xs0 q1
      refine ⟨.ref a0, g1, .inl ⟨rfl, vs0, .inl (.inl g2)⟩, ?_⟩
      have h : PostS K xo mg W B F ((evE G Γ a e).thn fun x e1 => match e1[i]? with
        | some (.own p xs) => if xs.length < lim then .nx (e1.set i (.own p (xs ++ [x.fz]))) else .bad
        | _ => .bad) Q := h
      refine tE_bindS r h (fun x y e q => by rw [q]) fun x e1 v H1 F1 r1 s1 dv hp => ?_
      have hp : PostS K xo mg W B F1 (match e1[i]? with
        | some (.own p xs) => if xs.length < lim then .nx (e1.set i (.own p (xs ++ [x]))) else .bad
        | _ => .bad) Q := hp
      cases q2 : e1[i]? with
      | none => rw [q2] at hp; exact hp.elim
      | some z2 =>
        rw [q2] at hp
        cases z2 with
        | un => exact hp.elim
        | val _ => exact hp.elim
        | own p1 xs1 =>
          have hp : PostS K xo mg W B F1 (if xs1.length < lim then .nx (e1.set i (.own p1 (xs1 ++ [x]))) else .bad) Q := hp
          by_cases hl : xs1.length < lim
          rotate_left
          · rw [if_neg hl] at hp; exact hp.elim
          rw [if_pos hl] at hp
          obtain ⟨a1, vs1, k1, k2, k3, k4, _⟩ := r1.own i p1 xs1 q2
          rw [g1] at k1
          injection k1 with k1
          injection k1 with k1
          injection k1 with k1
          subst k1
          exact ⟨a0, vs1, v, rfl, rfl, k2, by rw [k4.length]; exact lim_lt hl, hp σ _ F1 (r1.write q2 g1 (k4.append (.cons dv .nil))) (Same.refl _)⟩
theorem sem_for {g : Tg} {it : It} {b : Sxs} (h : tS K xo mg G Γ W (.for_ g it b) Q σ H) : tFor (tI K xo mg G Γ W it) (gT K xo g) (tSs K xo mg G Γ W b) Q σ H := by
  obtain ⟨B, F, e, r, h⟩ := h
  have h : PostS K xo mg W B F ((evIt G Γ it e).thn fun xs e1 => forGo g (evSs G Γ b) xs e1) Q := h
  refine ⟨B, F, e, r, PostX.imp (bindS h) fun xs e1 F1 H1 r1 s1 hp J wk => ?_⟩
  refine ⟨fun i m σ H => m = xs.length - i ∧ i ≤ xs.length ∧ ∃ F' e', Same F1 F' ∧ Rel K xo B F' σ H e' ∧ PostS K xo mg W B F' (forGo g (evSs G Γ b) (xs.drop i) e') Q, ⟨_, rfl, Nat.zero_le _, F1, e1, Same.refl _, r1, hp⟩, ?_⟩
  rintro i m σ2 H2 ⟨rfl, hi, F', e', s', R', hgo⟩
  obtain ⟨wgo, wst⟩ := wk s' R'
  by_cases hlt : i < xs.length
  · have hx : xs[i]? = some xs[i] := by simp [hlt]
    obtain ⟨go, yl⟩ := wgo i _ hx
    rw [List.drop_eq_getElem_cons hlt] at hgo
    refine .inr ⟨go, fun σ' H' => ∃ F3 e3, Same F1 F3 ∧ Rel K xo B F3 σ' H' e3 ∧ PostS K xo mg W B F3 (forGo g (evSs G Γ b) (xs.drop (i + 1)) e3) Q, fun σ' H' ⟨F3, e3, k1, k2, k3⟩ => ⟨xs.length - (i + 1), by omega, rfl, hlt, F3, e3, k1, k2, k3⟩, fun xv H3 y3 => ?_⟩
    obtain ⟨F3, s3, R3, d3⟩ := yl xv H3 y3
    have hgo : PostS K xo mg W B F' (match bindT g xs[i] e' with
      | none => .bad
      | some e1 => match evSs G Γ b e1 with
        | .nx e2 => forGo g (evSs G Γ b) (xs.drop (i + 1)) e2
        | .ct e2 => forGo g (evSs G Γ b) (xs.drop (i + 1)) e2
        | .bk e2 => .nx e2
        | .rt v e2 => .rt v e2
        | .exn c ps e2 => .exn c ps e2
        | .bad => .bad) Q := hgo
    cases hb : bindT g xs[i] e' with
    | none => rw [hb] at hgo; exact hgo.elim
    | some e3 =>
      rw [hb] at hgo
      refine ⟨B, F3, e', xs[i], e3, R3, d3, hb, fun σ4 R4 _ => ⟨B, F3, e3, R4, ?_⟩⟩
      have hgo : PostS K xo mg W B F' (match evSs G Γ b e3 with
        | .nx e2 => forGo g (evSs G Γ b) (xs.drop (i + 1)) e2
        | .ct e2 => forGo g (evSs G Γ b) (xs.drop (i + 1)) e2
        | .bk e2 => .nx e2
        | .rt v e2 => .rt v e2
        | .exn c ps e2 => .exn c ps e2
        | .bad => .bad) Q := hgo
      cases hr : evSs G Γ b e3 with
      | nx e4 => rw [hr] at hgo; exact fun σ' H' F5 r5 s5 => ⟨F5, e4, (s'.trans s3).trans s5, r5, PostS.sub hgo (s3.trans s5)⟩
      | ct e4 => rw [hr] at hgo; exact fun σ' H' F5 r5 s5 => ⟨F5, e4, (s'.trans s3).trans s5, r5, PostS.sub hgo (s3.trans s5)⟩
      | bk e4 => rw [hr] at hgo; exact fun σ' H' F5 r5 s5 => hgo σ' H' F5 r5 (s3.trans s5)
      | rt v e4 =>
        rw [hr] at hgo
        cases v with
        | d d => exact fun v σ' H' F5 r5 s5 => hgo v σ' H' F5 r5 (s3.trans s5)
        | fr ds => exact fun p vs σ' H' F5 r5 s5 => hgo p vs σ' H' F5 r5 (s3.trans s5)
      | exn c ps e4 => rw [hr] at hgo; exact fun cls dx σ' H' F5 r5 s5 => hgo cls dx σ' H' F5 r5 (s3.trans s5)
      | bad => rw [hr] at hgo; exact hgo
  · have ei : i = xs.length := by omega
    subst ei
    rw [List.drop_length] at hgo
    exact .inl ⟨wst, hgo σ2 H2 F' R' (Same.refl _)⟩
theorem sem_whil {n : Env → Nat} {c : Ex} {b : Sxs} (h : tS K xo mg G Γ W (.whil n c b) Q σ H) : tWhile (tT K xo mg G Γ W c) (tSs K xo mg G Γ W b) Q σ H := by
  obtain ⟨B, F, e, r, h⟩ := h
  have h : PostS K xo mg W B F (whileGo (evT G Γ c) (evSs G Γ b) (n e) e) Q := h
  refine ⟨fun m σ H => ∃ F' e', Same F F' ∧ Rel K xo B F' σ H e' ∧ PostS K xo mg W B F' (whileGo (evT G Γ c) (evSs G Γ b) m e') Q, ⟨n e, F, e, Same.refl _, r, h⟩, ?_⟩
  rintro m σ2 H2 ⟨F', e', s', R', hgo⟩
  cases m with
  | zero => exact hgo.elim
  | succ m =>
    have hgo : PostS K xo mg W B F' ((evT G Γ c e').thn fun b' e1 => if b' then (match evSs G Γ b e1 with
      | .nx e2 => whileGo (evT G Γ c) (evSs G Γ b) m e2
      | .ct e2 => whileGo (evT G Γ c) (evSs G Γ b) m e2
      | .bk e2 => .nx e2
      | .rt v e2 => .rt v e2
      | .exn c ps e2 => .exn c ps e2
      | .bad => .bad) else .nx e1) Q := hgo
    refine ⟨B, F', e', R', PostX.imp (bindS hgo) fun x e1 F1 H1 r1 s1 hp => ?_⟩
    cases x with
    | false =>
      rw [if_neg Bool.false_ne_true] at hp
      rw [if_neg Bool.false_ne_true]
      exact hp σ2 H1 F1 r1 (Same.refl _)
    | true =>
      rw [if_pos rfl] at hp
      rw [if_pos rfl]
      refine ⟨fun σ' H' => ∃ F3 e3, Same F F3 ∧ Rel K xo B F3 σ' H' e3 ∧ PostS K xo mg W B F3 (whileGo (evT G Γ c) (evSs G Γ b) m e3) Q, fun σ' H' q => ⟨m, Nat.lt_succ_self _, q⟩, B, F1, e1, r1, ?_⟩
      cases hr : evSs G Γ b e1 with
      | nx e4 => rw [hr] at hp; exact fun σ' H' F5 r5 s5 => ⟨F5, e4, (s'.trans s1).trans s5, r5, PostS.sub hp s5⟩
      | ct e4 => rw [hr] at hp; exact fun σ' H' F5 r5 s5 => ⟨F5, e4, (s'.trans s1).trans s5, r5, PostS.sub hp s5⟩
      | bk e4 => rw [hr] at hp; exact hp
      | rt v e4 =>
        rw [hr] at hp
        cases v with
        | d d => exact hp
        | fr ds => exact hp
      | exn c ps e4 => rw [hr] at hp; exact hp
      | bad => rw [hr] at hp; exact hp
theorem sem_rai {c : Str} {C : Addr} (hc : mg c = some (.ref C)) (h : tS K xo mg G Γ W (.rai c .nil) Q σ H) : W (.ref C) none σ H := by
  obtain ⟨B, F, e, r, h⟩ := h
  have h : PostS K xo mg W B F (.exn c [] e) Q := h
  exact h _ _ σ H F r (Same.refl _) ⟨C, hc, rfl, rfl⟩
theorem sem_raiE {c : Str} {a : Ex} {C : Addr} (hc : mg c = some (.ref C)) (h : tS K xo mg G Γ W (.rai c (.cons a .nil)) Q σ H) : tMkO C (spInit C (fieldOf c)) [] (tEs K xo mg G Γ W (.cons a .nil)) σ H fun cls d H' => W cls d σ H' := by
  obtain ⟨B, F, e, r, h⟩ := h
  have h : PostS K xo mg W B F ((evEs G Γ (.cons a .nil) e).thn fun xs e1 => .exn c xs e1) Q := h
  refine ⟨B, F, e, r, ?_⟩
  cases q : evEs G Γ (.cons a .nil) e with
  | bad => rw [q] at h; exact h
  | exn c ps e1 => rw [q] at h; exact fun cls dx H' F' r1 s1 x => h cls dx σ H' F' r1 s1 x
  | ok xs e1 =>
    have hx : ∃ x, xs = [x] := by
      have q : ((evE G Γ a e).bind fun x e1 => (evEs G Γ .nil e1).bind fun xs e2 => R.ok (x.fz :: xs) e2) = .ok xs e1 := q
      cases q2 : evE G Γ a e with
      | bad => rw [q2] at q; cases q
      | exn c ps e1 => rw [q2] at q; cases q
      | ok v e3 =>
        rw [q2] at q
        injection q with q1 q2
        exact ⟨_, q1.symm⟩
    obtain ⟨x, rfl⟩ := hx
    rw [q] at h
    have h : PostS K xo mg W B F (.exn c [x] e1) Q := h
    intro H' F' r1 s1 vs dv
    match vs, dv with
    | [v], .cons d1 .nil =>
      refine ⟨(show 1 ≤ 1000 by decide), fun p np => ⟨p, v, rfl, upd_same, fun d nd ne => ⟨rfl, d, [(fieldOf c, v)], upd_same, ?_, ?_, ?_⟩⟩⟩
      · rw [upd_ne ne, upd_same]
      · rw [upd_ne ne] at nd; exact nd
      · have nd' : H' d = none := by rw [upd_ne ne] at nd; exact nd
        have eH : upd (del (upd (upd (upd H' p (exo p C none)) d (exd d [(fieldOf c, v)])) p (exo p C (some d))) p) d (HO.xd [(fieldOf c, v)]) = upd H' d (HO.xd [(fieldOf c, v)]) := by
          funext b
          by_cases hb : b = d
          · subst hb; rw [upd_same, upd_same]
          · rw [upd_ne hb, upd_ne hb]
            by_cases hp : b = p
            · subst hp; rw [del_same, np]
            · rw [del_ne hp, upd_ne hp, upd_ne hb, upd_ne hp]
        rw [eH]
        have s2 := same_upd (o := HO.xd [(fieldOf c, v)]) (r1.f0 nd')
        exact h _ _ σ _ _ (r1.laid nd') (s1.trans s2) ⟨C, hc, rfl, d, v, rfl, upd_same, d1.mono s2⟩
theorem sem_pass (h : tS K xo mg G Γ W .pass Q σ H) : tNext Q σ H := by
  obtain ⟨B, F, e, r, h⟩ := h
  exact h σ H F r (Same.refl _)
theorem sem_brk (h : tS K xo mg G Γ W .brk Q σ H) : tBreak Q σ H := by
  obtain ⟨B, F, e, r, h⟩ := h
  exact h σ H F r (Same.refl _)
theorem sem_cnt (h : tS K xo mg G Γ W .cnt Q σ H) : tCont Q σ H := by
  obtain ⟨B, F, e, r, h⟩ := h
  exact h σ H F r (Same.refl _)
/-- two names, stored from the right -/
theorem sem_par {i j : Nat} {a b : Ex} (h : tS K xo mg G Γ W (.asg (.tp [.nm i, .nm j]) (.tup (.cons a (.cons b .nil)))) Q σ H) : tPar i j (tEs K xo mg G Γ W (.cons a (.cons b .nil))) Q σ H := by
  obtain ⟨B, F, e, r, h⟩ := h
  have h : PostS K xo mg W B F ((evE G Γ (.tup (.cons a (.cons b .nil))) e).thn fun x e1 => match bindT (.tp [.nm i, .nm j]) x.fz e1 with
    | some e2 => .nx e2
    | none => .bad) Q := h
  refine ⟨B, F, e, r, ?_⟩
  have h : PostS K xo mg W B F (((evEs G Γ (.cons a (.cons b .nil)) e).bind fun xs e1 => if xs.length ≤ lim then R.ok (DV.d (.tuple xs)) e1 else R.bad).thn fun x e1 => match bindT (.tp [.nm i, .nm j]) x.fz e1 with
    | some e2 => .nx e2
    | none => .bad) Q := h
  cases q : evEs G Γ (.cons a (.cons b .nil)) e with
  | bad => rw [q] at h; exact h
  | exn c ps e1 => rw [q] at h; exact fun cls dx H' F' r1 s1 x => h cls dx σ H' F' r1 s1 x
  | ok xs e1 =>
    rw [q] at h
    have h : PostS K xo mg W B F ((if xs.length ≤ lim then R.ok (DV.d (.tuple xs)) e1 else R.bad).thn fun x e1 => match bindT (.tp [.nm i, .nm j]) x.fz e1 with
      | some e2 => .nx e2
      | none => .bad) Q := h
    by_cases hl : xs.length ≤ lim
    rotate_left
    · rw [if_neg hl] at h; exact h.elim
    rw [if_pos hl] at h
    intro H' F' r1 s1 vs dv
    match xs, dv, h with
    | [x, y], .cons d1 (.cons d2 .nil), h =>
      exact ⟨_, _, rfl, h _ H' F' ((r1.setVal d1).setVal d2) s1⟩
    | [], _, h => exact h.elim
    | [_], _, h => exact h.elim
    | _ :: _ :: _ :: _, _, h => exact h.elim
theorem sem_par3 {i j l : Nat} {a b c : Ex} (h : tS K xo mg G Γ W (.asg (.tp [.nm i, .nm j, .nm l]) (.tup (.cons a (.cons b (.cons c .nil))))) Q σ H) : tPar3 i j l (tEs K xo mg G Γ W (.cons a (.cons b (.cons c .nil)))) Q σ H := by
  obtain ⟨B, F, e, r, h⟩ := h
  refine ⟨B, F, e, r, ?_⟩
  have h : PostS K xo mg W B F (((evEs G Γ (.cons a (.cons b (.cons c .nil))) e).bind fun xs e1 => if xs.length ≤ lim then R.ok (DV.d (.tuple xs)) e1 else R.bad).thn fun x e1 => match bindT (.tp [.nm i, .nm j, .nm l]) x.fz e1 with
    | some e2 => .nx e2
    | none => .bad) Q := h
  cases q : evEs G Γ (.cons a (.cons b (.cons c .nil))) e with
  | bad => rw [q] at h; exact h
  | exn c ps e1 => rw [q] at h; exact fun cls dx H' F' r1 s1 x => h cls dx σ H' F' r1 s1 x
  | ok xs e1 =>
    rw [q] at h
    have h : PostS K xo mg W B F ((if xs.length ≤ lim then R.ok (DV.d (.tuple xs)) e1 else R.bad).thn fun x e1 => match bindT (.tp [.nm i, .nm j, .nm l]) x.fz e1 with
      | some e2 => .nx e2
      | none => .bad) Q := h
    by_cases hl : xs.length ≤ lim
    rotate_left
    · rw [if_neg hl] at h; exact h.elim
    rw [if_pos hl] at h
    intro H' F' r1 s1 vs dv
    match xs, dv, h with
    | [x, y, z], .cons d1 (.cons d2 (.cons d3 .nil)), h =>
      exact ⟨_, _, _, rfl, h _ H' F' (((r1.setVal d1).setVal d2).setVal d3) s1⟩
    | [], _, h => exact h.elim
    | [_], _, h => exact h.elim
    | [_, _], _, h => exact h.elim
    | _ :: _ :: _ :: _ :: _, _, h => exact h.elim
theorem _root_.DL.Rel.setUn {i : Nat} (r : Rel K xo B F σ H e) : Rel K xo B F (σ.set i none) H (e.set i .un) := by
  refine r.part (by rw [List.length_set, List.length_set]; exact r.len) fun k s q => ?_
  rcases getSet q with ⟨_, z⟩ | ⟨z, q⟩
  · exact .inl z
  · exact .inr ⟨q, by rw [List.getElem?_set_ne z]⟩
/-- try: b; except c as n: m = n -/
theorem sem_tryc {b : Sxs} {c : Str} {i j : Nat} {D : Addr} (ef : ExF K mg) (xof : ∀ k o, exNames.contains k = true → (xo k none o ↔ ∃ C a, mg k = some (.ref C) ∧ o = ExP (.ref C) a)) (hc : exNames.contains c = true) (hm : mg c = some (.ref D)) (h : tS K xo mg G Γ W (.tryc b c i j) Q σ H) :
    tSs K xo mg G Γ (wCat K (.ref D) i (fun _ Dn σ H => ∃ v, σ[i]? = some (some v) ∧ Dn.nx (σ.set j (some v)) H) W Q) b Q σ H := by
  obtain ⟨B, F, e, r, h⟩ := h
  have h : PostS K xo mg W B F (match evSs G Γ b e with
    | .exn k ps e1 => catR c i j k ps e1
    | r => r) Q := h
  refine ⟨B, F, e, r, ?_⟩
  cases q : evSs G Γ b e with
  | nx e1 => rw [q] at h; exact h
  | bk e1 => rw [q] at h; exact h
  | ct e1 => rw [q] at h; exact h
  | rt v e1 =>
    rw [q] at h
    cases v with
    | d d => exact h
    | fr ds => exact h
  | bad => rw [q] at h; exact h
  | exn k ps e1 =>
    rw [q] at h
    have h : PostS K xo mg W B F (catR c i j k ps e1) Q := h
    clear q
    intro cls dx σ' H' F' r1 s1 x
    unfold catR at h
    by_cases hk : exNames.contains k = true
    · rw [if_pos hk] at h
      obtain ⟨C, m1, rfl, hps⟩ := id x
      have e2 := (ef.sub k c C D hk hc m1 hm).2
      refine ⟨exSub k c, e2, fun hb => ?_, fun hb => ?_⟩
      · rw [if_pos hb] at h
        cases ps with
        | cons p t => exact h.elim
        | nil =>
          have hps : dx = none := hps
          refine ⟨hps, fun a na => ?_⟩
          have h : PostS K xo mg W B F (if i < e1.length then .nx (((e1.set i (.val (exD k []))).set j (.val (exD k []))).set i .un) else .bad) Q := h
          have r2 : Rel K xo B (upd F' a (ExP (.ref C) a)) σ' (upd H' a (ExP (.ref C) a)) e1 := r1.laid na
          have hF : F' a = none := r1.f0 na
          have dn : Den K xo (upd F' a (ExP (.ref C) a)) (.ref a) (exD k []) := .exc0 upd_same ((xof k _ hk).mpr ⟨C, a, m1, rfl⟩)
          by_cases hi : i < e1.length
          · rw [if_pos hi] at h
            refine ⟨.ref a, List.getElem?_set_self (by rw [r1.len]; exact hi), ?_⟩
            exact h _ _ _ (((r2.setVal dn).setVal dn).setUn) (s1.trans (same_upd hF))
          · rw [if_neg hi] at h
            exact h.elim
      · rw [if_neg (by rw [hb]; exact Bool.false_ne_true)] at h
        exact h _ dx σ' H' F' r1 s1 x
    · rw [if_neg hk] at h
      exact h.elim
/-- try: b; except c as n: m = n; l = n.field; .. -/
theorem sem_tryd {b : Sxs} {c : Str} {i j k : Nat} {C : Addr} (ef : ExF K mg) (xof : ∀ x dx o, exNames.contains x = true → (∃ C a, mg x = some (.ref C) ∧ o = ExD (.ref C) dx a) → xo x dx o) (hc : exNames.contains c = true) (hm : mg c = some (.ref C)) (hf : PySem.W.findIn K (.ref C) (fieldOf c) = some none)
    (h : tS K xo mg G Γ W (.tryd b c i j k) Q σ H) :
    tSs K xo mg G Γ (wCat2 K (.ref C) i (fun _ _ _ => tSeq (tAsg (tVar i) (gName j)) (tAsg (tFld K (fieldOf c) (tVar i)) (gName k))) Q) b Q σ H := by
  obtain ⟨B, F, e, r, h⟩ := h
  have h : PostS K xo mg W B F (match evSs G Γ b e with
    | .exn x ps e1 => catD c i j k x ps e1
    | r => r) Q := h
  refine ⟨B, F, e, r, ?_⟩
  cases q : evSs G Γ b e with
  | nx e1 => rw [q] at h; exact h
  | bk e1 => rw [q] at h; exact h
  | ct e1 => rw [q] at h; exact h
  | rt v e1 =>
    rw [q] at h
    cases v with
    | d d => exact h
    | fr ds => exact h
  | bad => rw [q] at h; exact h
  | exn x ps e1 =>
    rw [q] at h
    have h : PostS K xo mg W B F (catD c i j k x ps e1) Q := h
    clear q
    intro cls dx σ' H' F' r1 s1 y
    unfold catD at h
    by_cases hx : x = c
    rotate_left
    · rw [if_neg hx] at h; exact h.elim
    rw [if_pos hx] at h
    subst hx
    match ps, h, y with
    | [], h, _ => exact h.elim
    | _ :: _ :: _, h, _ => exact h.elim
    | [p], h, y =>
      have h : PostS K xo mg W B F (if i < e1.length ∧ j ≠ i ∧ k ≠ i then .nx ((((e1.set i (.val (exD x [p]))).set j (.val (exD x [p]))).set k (.val p)).set i .un) else .bad) Q := h
      by_cases hi : i < e1.length ∧ j ≠ i ∧ k ≠ i
      rotate_left
      · rw [if_neg hi] at h; exact h.elim
      rw [if_pos hi] at h
      obtain ⟨hi, hj, hk⟩ := hi
      obtain ⟨C', m1, rfl, dd, v, rfl, hF, hv⟩ := id y
      have ec : C' = C := by
        rw [m1] at hm
        injection hm with hm
        injection hm
      subst ec
      have e2 := (ef.sub x x C' C' hc hc m1 m1).2
      have e3 : exSub x x = true := by unfold exSub; rw [beq_self_eq_true]; rfl
      refine ⟨by rw [← e3]; exact e2, fun a na => ?_⟩
      have hFa : F' a = none := r1.f0 na
      have r2 : Rel K xo B (upd F' a (ExD (.ref C') (some dd) a)) σ' (upd H' a (ExD (.ref C') (some dd) a)) e1 := r1.laid na
      have s2 := same_upd (o := ExD (.ref C') (some dd) a) hFa
      have dn : Den K xo (upd F' a (ExD (.ref C') (some dd) a)) (.ref a) (exD x [p]) := .exc1 upd_same (xof x _ _ hc ⟨C', a, m1, rfl⟩) (s2 _ _ hF) (hv.mono s2)
      have hl : σ'.length = e1.length := r1.len
      have g1 : (σ'.set i (some (V.ref a)))[i]? = some (some (V.ref a)) := List.getElem?_set_self (by rw [hl]; exact hi)
      have g2 : ((σ'.set i (some (V.ref a))).set j (some (V.ref a)))[i]? = some (some (V.ref a)) := by rw [List.getElem?_set_ne hj]; exact g1
      refine ⟨.ref a, g1, .ref a, g2, a, a, C', dd, [(fieldOf x, v)], v, rfl, upd_same, xfC_of (ef.cls x C' hc m1).1, hf, ?_, by rw [lookup_put, if_pos rfl], ?_⟩
      · exact r2.sub _ _ (s2 _ _ hF)
      · exact h _ _ _ (((((r2.setVal dn).setVal dn).setVal (hv.mono s2))).setUn) (s1.trans s2)
end
end DL


set_option Elab.async false
set_option linter.all false
set_option maxRecDepth 100000
set_option maxHeartbeats 8000000
/-! DL19: the main theorem of statements. -/
namespace DL
open PySem PySem.Spec PyProof.Rows L2

def noComp : Expr → Bool
  | .ListComp _ _ _ _ => false
  | .SetComp _ _ _ _ => false
  | .DictComp _ _ _ _ _ => false
  | _ => true
/-- a plain assignment, as to how the stores go -/
def asgB : Expr → Expr → Bool
  | .Tuple ts _ _, .Tuple vs _ _ => (!(ts.length == 2 || ts.length == 3)) || vs.length != ts.length || vs.all (foldedForSure 8)
  | .Tuple _ _ _, _ => true
  | .Name _ _, _ => true
  | _, _ => false
def lcB (sc : Scope) (x : Str) : Bool := sc.names.lookup x == some .local
/-- two or three local names on one line, stored from the right -/
def parB (sc : Scope) : Expr → Expr → Bool
  | .Tuple [.Name x px, .Name y py] _ _, .Tuple [u, v] _ _ => lcB sc x && lcB sc y && py.line == px.line && x != y && argB u && argB v && !([u, v].all (foldedForSure 8)) && !([u, v].all (constantsAlone 8))
  | .Tuple [.Name x px, .Name y py, .Name z pz] _ _, .Tuple [u, v, w] _ _ => lcB sc x && lcB sc y && lcB sc z && py.line == px.line && pz.line == px.line && x != y && x != z && y != z && argB u && argB v && argB w && !([u, v, w].all (foldedForSure 8)) && !([u, v, w].all (constantsAlone 8))
  | _, _ => false
/-- try: body; except x as n: y = z -/
def tryOf : Stmt → Option (List Stmt × Str × Str × Str × Str)
  | .Try body [.ExceptHandler (some (.Name x _)) (some n) [.Assign [.Name y _] (.Name z _) _] _] [] [] _ => some (body, x, n, y, z)
  | _ => none
theorem tryOf_eq {st : Stmt} {q : List Stmt × Str × Str × Str × Str} (h : tryOf st = some q) : ∃ np py pz pa ph pos, st = .Try q.1 [.ExceptHandler (some (.Name q.2.1 np)) (some q.2.2.1) [.Assign [.Name q.2.2.2.1 py] (.Name q.2.2.2.2 pz) pa] ph] [] [] pos := by
  unfold tryOf at h
  split at h
  · have h := Option.some.inj h
    subst h
    exact ⟨_, _, _, _, _, _, rfl⟩
  · cases h
/-- try: body; except x as n: y = z; u = z2.f; .. -/
def trydOf : Stmt → Option (List Stmt × Str × Str × Str × Str × Str × Str × Str)
  | .Try body (.ExceptHandler (some (.Name x _)) (some n) [.Assign [.Name y _] (.Name z _) _, .Assign [.Name u _] (.Attribute (.Name z2 _) f _) _] _ :: _) [] [] _ => some (body, x, n, y, z, u, z2, f)
  | _ => none
theorem trydOf_eq {st : Stmt} {body : List Stmt} {x n y z u z2 f : Str} (h : trydOf st = some (body, x, n, y, z, u, z2, f)) : ∃ np py pz pa pu pz2 pf pa2 ph hds pos, st = .Try body (.ExceptHandler (some (.Name x np)) (some n) [.Assign [.Name y py] (.Name z pz) pa, .Assign [.Name u pu] (.Attribute (.Name z2 pz2) f pf) pa2] ph :: hds) [] [] pos := by
  unfold trydOf at h
  split at h
  · have h := Option.some.inj h
    simp only [Prod.mk.injEq] at h
    obtain ⟨rfl, rfl, rfl, rfl, rfl, rfl, rfl, rfl⟩ := h
    exact ⟨_, _, _, _, _, _, _, _, _, _, _, rfl⟩
  · cases h
mutual
def ckS (cf : Cf) (sc : Scope) : Sx → Stmt → Bool
  | .asg t a, .Assign [tg] e _ => ckTg cf sc none t tg && ckE cf sc none a e && (asgB tg e || parB sc tg e)
  | .spl i j a, .Assign [.Tuple [.Name x _, .Starred (.Name y _) _] _ _] (.Name z pz) _ => atB cf.N i x && stB sc none x && atB cf.N j y && stB sc none y && ckE cf sc none a (.Name z pz)
  | .own i a, .Assign [.Name x _] e _ => atB cf.N i x && stB sc none x && ckE cf sc none a e
  | .seti i k a, .Assign [.Subscript (.Name x _) sl _] e _ => nmB cf sc i x && plainB sl && ckE cf sc none k sl && ckE cf sc none a e
  | .app i a, .Expr (.Call (.Attribute (.Name x _) m ap) [e] [] cp) _ => nmB cf sc i x && m == ("append" : Str) && ap.endLine == cp.line && argB e && ckE cf sc none a e
  | .ife c a b, .If t x y _ => ckE cf sc none c t && ckSs cf sc a x && ckSs cf sc b y
  | .for_ g it b, .For tg iter body [] _ => ckTg cf sc none g tg && ckIt cf sc none it (isTup tg) iter && ckSs cf sc b body
  | .whil _ c b, .While t body [] _ => ckE cf sc none c t && ckSs cf sc b body
  | .ret a, .Return (some e) _ => ckE cf sc none a e
  | .retn, .Return none _ => true
  | .rai c .nil, .Raise (some (.Call (.Name x _) [.Constant (.str _) _ _] [] _)) none _ => x == c && cf.ex.contains x && gnB sc x
  | .rai c (.cons a .nil), .Raise (some (.Call (.Name x _) [e] [] _)) none _ => x == c && cf.e1.contains x && gnB sc x && argB e && ckE cf sc none a e
  | .ex a, .Expr e _ => noComp e && ckE cf sc none a e
  | .pass, .Pass _ => true
  | .brk, .Break _ => true
  | .cnt, .Continue _ => true
  | .tryc b c i j, st => (match tryOf st with
    | some (body, x, n, y, z) => x == c && gnB sc x && cf.cx.contains c && exNames.contains c && atB cf.N i n && lcB sc n && z == n && nmB cf sc i z && atB cf.N j y && stB sc none y && ckSs cf sc b body
    | none => false)
  | .tryd b c i j k, st => (match trydOf st with
    | some (body, x, n, y, z, u, z2, f) => x == c && gnB sc x && cf.e1.contains x && exNames.contains c && atB cf.N i n && lcB sc n && z == n && z2 == n && nmB cf sc i z && atB cf.N j y && stB sc none y && atB cf.N k u && stB sc none u && f == fieldOf c && ckSs cf sc b body
    | none => false)
  | .unk, _ => true
  | _, _ => false
def ckSs (cf : Cf) (sc : Scope) : Sxs → List Stmt → Bool
  | .nil, [] => true
  | .cons s ss, t :: ts => ckS cf sc s t && ckSs cf sc ss ts
  | _, _ => false
end

/-- a def's context -/
structure XSt (X : Cx) (cf : Cf) (sc : Scope) (G : List D) (Γ : List Fn) (xo : XO) (W : WX) : Prop where
  o : XOk X cf sc none G Γ xo W
  po : PassesOwn (model X.prog X.w) X.A X.env X.xe
  bk : X.env.blockKind = .function
  exc : ∀ x ∈ cf.ex, ∃ C, X.mg x = some (.ref C) ∧ PySem.W.excIn X.K C [.type "ValueError", .type "Exception", .type "BaseException", .type "object"] "ValueError.__new__" = true ∧ PySem.W.keepIn X.K (.ref C) = true ∧ PySem.W.subIn X.K (.ref C) (.type "BaseException") = some true ∧ PySem.W.typeIn X.K (.ref C) = some (.type "type")
  e1 : ∀ x ∈ cf.e1, ∃ n, E1 X.prog X.w X.K X.mg X.base n x ∧ Room (n + 1) X.A
  xof1 : ∀ x dx o, exNames.contains x = true → (∃ C a, X.mg x = some (.ref C) ∧ o = ExD (.ref C) dx a) → xo x dx o
  stk : X.stack = X.env :: X.outer
  frm : X.env.frame = some X.env.locals
  noex : X.ex = []

theorem _root_.L2.PS.imp {X : Cx} {e : Stmt} {t t' : TS} (h : PS X e t) (i : ∀ D σ H, t' D σ H → t D σ H) : PS X e t' := DL.PS.imp h i
theorem _root_.L2.PSs.imp {X : Cx} {e : List Stmt} {t t' : TS} (h : PSs X e t) (i : ∀ D σ H, t' D σ H → t D σ H) : PSs X e t' := DL.PSs.imp h i
section
variable {env : PySem.Env}
theorem swapsOf {e : Expr} (h : noComp e = true) (t : Option Expr) (n : Nat) : swapsWith e t n env = pure false := by
  cases e <;> first | rfl | cases h
theorem ckE_comp {cf : Cf} {sc : Scope} {fc : Option Scope} {a : Ex} {e : Expr} (h : ckE cf sc fc a e = true) : noComp e = true ∨ ∃ x vs g it c elt tg iter ifs scope pos, a = .comp x vs g it c ∧ e = .ListComp elt [⟨tg, iter, ifs, 0⟩] scope pos := by
  cases e with
  | ListComp elt gens scope pos =>
    cases a with
    | comp x vs g it c =>
      match gens, h with
      | [⟨tg, iter, ifs, 0⟩], h => exact .inr ⟨x, vs, g, it, c, elt, tg, iter, ifs, scope, pos, rfl, rfl⟩
    | lit c => cases c <;> exact absurd (show false = true from h) (by decide)
    | _ => exact absurd (show false = true from h) (by decide)
  | SetComp _ _ _ _ =>
    cases a with
    | lit c => cases c <;> exact absurd (show false = true from h) (by decide)
    | _ => exact absurd (show false = true from h) (by decide)
  | DictComp _ _ _ _ _ =>
    cases a with
    | lit c => cases c <;> exact absurd (show false = true from h) (by decide)
    | _ => exact absurd (show false = true from h) (by decide)
  | _ => exact .inl rfl
theorem swapN {ts vs : List Expr} {k k2 : Nat} {p p2 : Pos} (h : asgB (.Tuple ts k p) (.Tuple vs k2 p2) = true) : swappedStores [.Tuple ts k p] (.Tuple vs k2 p2) env = pure none := by
  have h : ((!(ts.length == 2 || ts.length == 3)) || vs.length != ts.length || vs.all (foldedForSure 8)) = true := h
  unfold swappedStores
  simp only [pure_bind]
  by_cases h1 : (!(ts.length == 2 || ts.length == 3) || vs.length != ts.length || env.blockKind != .function) = true
  · rw [if_pos h1]
  · rw [if_neg h1]
    have h2 : vs.all (foldedForSure 8) = true := by
      simp only [Bool.or_eq_true, not_or] at h1 h
      rcases h with (h | h) | h
      · exact absurd h h1.1.1
      · exact absurd h h1.1.2
      · exact h
    simp only [h2, if_true]
    repeat' (first | rfl | split)
theorem swap2 {x y : Str} {px py p p2 : Pos} {k k2 : Nat} {u v : Expr} (bk : env.blockKind = .function) (hx : env.kindOf x = some .local) (hy : env.kindOf y = some .local) (hl : (py.line == px.line) = true) (ne : (x != y) = true)
    (su : argB u = true) (sv : argB v = true) (f : [u, v].all (foldedForSure 8) = false) (c : [u, v].all (constantsAlone 8) = false) : swappedStores [.Tuple [.Name x px, .Name y py] k p] (.Tuple [u, v] k2 p2) env = pure (some [x, y]) := by
  have ne' : (y == x) = false := by
    rw [bne, Bool.not_eq_true'] at ne
    rw [beq_eq_false_iff_ne] at ne ⊢
    exact fun z => ne z.symm
  have hl' : (px.line == px.line) = true := by simp
  unfold swappedStores
  simp [bk, hx, hy, hl, Expr.pos, f, c, List.eraseDups, List.eraseDupsBy, List.eraseDupsBy.loop, ne', List.filterMap]
  intro h
  rcases h with h | h
  · split at h
    · cases su
    · cases h
  · split at h
    · cases sv
    · cases h
theorem swap3 {x y z : Str} {px py pz p p2 : Pos} {k k2 : Nat} {u v w : Expr} (bk : env.blockKind = .function) (hx : env.kindOf x = some .local) (hy : env.kindOf y = some .local) (hz : env.kindOf z = some .local) (hl : (py.line == px.line) = true) (hl2 : (pz.line == px.line) = true)
    (ne : (x != y) = true) (ne2 : (x != z) = true) (ne3 : (y != z) = true)
    (su : argB u = true) (sv : argB v = true) (sw : argB w = true) (f : [u, v, w].all (foldedForSure 8) = false) (c : [u, v, w].all (constantsAlone 8) = false) : swappedStores [.Tuple [.Name x px, .Name y py, .Name z pz] k p] (.Tuple [u, v, w] k2 p2) env = pure (some [x, y, z]) := by
  have turn : ∀ {x y : Str}, (x != y) = true → (y == x) = false := fun {x y} ne => by
    rw [bne, Bool.not_eq_true'] at ne
    rw [beq_eq_false_iff_ne] at ne ⊢
    exact fun z => ne z.symm
  have n1 := turn ne
  have n2 := turn ne2
  have n3 := turn ne3
  have hl' : (px.line == px.line) = true := by simp
  unfold swappedStores
  simp [bk, hx, hy, hz, hl, hl2, Expr.pos, f, c, List.eraseDups, List.eraseDupsBy, List.eraseDupsBy.loop, n1, n2, n3, List.filterMap]
  intro h
  rcases h with h | h | h
  · split at h
    · cases su
    · cases h
  · split at h
    · cases sv
    · cases h
  · split at h
    · cases sw
    · cases h
end
end DL


set_option Elab.async false
set_option linter.all false
set_option maxRecDepth 100000
set_option maxHeartbeats 8000000
/-! DL20: a text of statements that agrees with its term does what the term says. -/
namespace DL
open PySem PySem.Spec PyProof.Rows L2

section
variable {cf : Cf} {G : List D} {Γ : List Fn} {xo : XO} {X : Cx} {sc : Scope} {W : WX}
theorem XSt.kd (o : XSt X cf sc G Γ xo W) {x : Str} (h : lcB sc x = true) : X.env.kindOf x = some .local ∧ X.env.scope.names.lookup x = some .local := by
  have e : sc.names.lookup x = some .local := beq_iff_eq.mp h
  have e2 : X.env.scope.names.lookup x = some .local := by rw [o.o.hsc]; exact e
  exact ⟨e2, e2⟩
/-- a name gets a term's value -/
theorem ps_name (o : XSt X cf sc G Γ xo W) {i : Nat} {x : Str} {a : Ex} {e : Expr} {px pos : Pos} (hi : atB cf.N i x = true) (hs : stB sc none x = true) (h : ckE cf sc none a e = true) :
    PS X (.Assign [.Name x px] e pos) (fun Dn σ H => tE X.K xo X.mg G Γ W a σ H fun v H1 => gName i v σ H1 Dn.nx) := by
  have hN : X.N.Nodup := by rw [o.o.hN]; exact o.o.nd
  have hi' : X.N[i]? = some x := by rw [o.o.hN]; exact atB_e hi
  have hl : Loc X.env.scope x := by rw [o.o.hsc]; exact stB_loc hs
  have hf := o.o.fn x hs
  rcases ckE_comp h with hc | ⟨x0, vs, g, it, c, elt, tg, iter, ifs, scope, ps, ea, ee⟩
  · exact ps_set hN hi' hl (okE a o.o e h).1 (swapsOf hc _ _) hf
  · subst ea ee
    have hp := (okE (.comp x0 vs g it c) o.o _ h).1
    cases hb : (X.env.blockKind == .function && X.env.kindOf x == some .local && px.line == ps.line && !(scope.names.any fun (n, k) => n == x && (k == .local || k == .cell))) with
    | false =>
      refine ps_set hN hi' hl hp ?_ hf
      show (pure _ : Sem Bool) = pure false
      exact congrArg pure hb
    | true =>
      have h : (blkC cf.N sc scope (ownOf cf.N vs) && (ownOf cf.N vs).map (·.2) == vs && (tgS g).all (fun i => vs.contains i) && ckTg cf (relS scope sc) (some scope) g tg && ckIt cf sc none it (isTup tg) iter &&
        ckE cf (relS scope sc) (some scope) x0 elt && ckOp cf (relS scope sc) (some scope) c ifs.head? && len01 ifs) = true := h
      simp only [Bool.and_eq_true] at h
      obtain ⟨⟨⟨⟨⟨⟨⟨k1, k2⟩, k3⟩, k4⟩, k5⟩, k6⟩, k7⟩, k8⟩ := h
      have e2 : (ownOf cf.N vs).map (·.2) = vs := by simpa using k2
      have hg : ∀ i ∈ tgS g, i ∈ vs := fun i hi => by
        have := List.all_eq_true.mp k3 i hi
        simpa using this
      have hi2 := okIt it o.o tg iter k5
      have hbk : BlkOk X.N X.env.scope scope (ownOf cf.N vs) := by
        rw [o.o.hN, o.o.hsc]
        exact blkOk_by k1
      have hyl : X.env.scope.names.lookup x = some .local := by
        simp only [Bool.and_eq_true] at hb
        exact beq_iff_eq.mp hb.1.1.2
      have main := ps_setLc (py := px) (pos := ps) (spos := pos) (g := gT X.K xo g) (tt := tOT X.K xo X.mg G Γ W0 c) (te := tE X.K xo X.mg G Γ W0 x0) o.o.calm hN hi' hyl
        (by show (pure _ : Sem Bool) = pure true; exact congrArg pure hb) hi2.1 hbk
        (fun s H C cl fp => pg_ok (o.o.blk scope s H C cl fp) g tg k4) (fun s H C cl fp => okTs c (o.o.blk scope s H C cl fp) ifs k7 k8) (fun s H C cl fp => (okE x0 (o.o.blk scope s H C cl fp) elt k6).1) hi2.2
      refine main.imp fun Dn σ H q => ?_
      rw [e2]
      exact comp_ok hg q
theorem ckEs_two {es : Exs} {u v : Expr} {fc : Option Scope} (h : ckEs cf sc fc es [u, v] = true) : ∃ a b, es = .cons a (.cons b .nil) := by
  match es, h with
  | .cons a (.cons b .nil), _ => exact ⟨a, b, rfl⟩
  | .nil, h => exact nomatch h
  | .cons a .nil, h =>
    have h : (argB u && ckE cf sc fc a u && false) = true := h
    rw [Bool.and_eq_true] at h
    exact nomatch h.2
  | .cons a (.cons b (.cons _ _)), h =>
    have h : (argB u && ckE cf sc fc a u && (argB v && ckE cf sc fc b v && false)) = true := h
    simp only [Bool.and_eq_true] at h
    exact nomatch h.2.2
theorem ckEs_three {es : Exs} {u v w : Expr} {fc : Option Scope} (h : ckEs cf sc fc es [u, v, w] = true) : ∃ a b c, es = .cons a (.cons b (.cons c .nil)) := by
  match es, h with
  | .cons a r, h =>
    have h : (argB u && ckE cf sc fc a u && ckEs cf sc fc r [v, w]) = true := h
    rw [Bool.and_eq_true] at h
    obtain ⟨b, c, e⟩ := ckEs_two h.2
    exact ⟨a, b, c, by rw [e]⟩
  | .nil, h => exact nomatch h
theorem ckE_tup {a : Ex} {es : List Expr} {k : Nat} {p : Pos} {fc : Option Scope} (h : ckE cf sc fc a (.Tuple es k p) = true) : ∃ xs, a = .tup xs ∧ ckEs cf sc fc xs es = true := by
  cases a with
  | tup xs => exact ⟨xs, rfl, h⟩
  | lit c => cases c <;> exact absurd (show false = true from h) (by decide)
  | _ => exact absurd (show false = true from h) (by decide)
theorem ckTg_nm {t : Tg} {x : Str} {p : Pos} {fc : Option Scope} (h : ckTg cf sc fc t (.Name x p) = true) : ∃ i, t = .nm i ∧ atB cf.N i x = true ∧ stB sc fc x = true := by
  cases t with
  | nm i =>
    have h : (atB cf.N i x && stB sc fc x) = true := h
    rw [Bool.and_eq_true] at h
    exact ⟨i, rfl, h.1, h.2⟩
  | tp _ => exact nomatch h
theorem ckTg_tp {t : Tg} {es : List Expr} {k : Nat} {p : Pos} {fc : Option Scope} (h : ckTg cf sc fc t (.Tuple es k p) = true) : ∃ ts, t = .tp ts ∧ ckTgs cf sc fc ts es = true := by
  cases t with
  | nm i => exact nomatch h
  | tp ts => exact ⟨ts, rfl, h⟩
theorem ckTgs_cons {ts : List Tg} {e : Expr} {es : List Expr} {fc : Option Scope} (h : ckTgs cf sc fc ts (e :: es) = true) : ∃ t r, ts = t :: r ∧ ckTg cf sc fc t e = true ∧ ckTgs cf sc fc r es = true := by
  cases ts with
  | nil => exact nomatch h
  | cons t r =>
    have h : (ckTg cf sc fc t e && ckTgs cf sc fc r es) = true := h
    rw [Bool.and_eq_true] at h
    exact ⟨t, r, rfl, h.1, h.2⟩
theorem ckTgs_nil {ts : List Tg} {fc : Option Scope} (h : ckTgs cf sc fc ts [] = true) : ts = [] := by
  cases ts with
  | nil => rfl
  | cons t r => exact nomatch h
theorem at_ne {i j : Nat} {x y : Str} (hi : atB cf.N i x = true) (hj : atB cf.N j y = true) (ne : (x != y) = true) : i ≠ j := fun e => by
  subst e
  have h1 := atB_e hi
  have h2 := atB_e hj
  rw [h1] at h2
  have h3 := Option.some.inj h2
  rw [h3] at ne
  simp at ne
theorem starEl (e : Expr) (env : PySem.Env) (es : List Expr) (h : argB e = true) : starEach (e :: es) env = (false, eval e env) :: starEach es env := starOf h
theorem ps_asgOk (o : XSt X cf sc G Γ xo W) {t : Tg} {a : Ex} {tg e : Expr} {pos : Pos} (h1 : ckTg cf sc none t tg = true) (h2 : ckE cf sc none a e = true) (h3 : (asgB tg e || parB sc tg e) = true) : PS X (.Assign [tg] e pos) (tS X.K xo X.mg G Γ W (.asg t a)) := by
  have hN : X.N.Nodup := by rw [o.o.hN]; exact o.o.nd
  cases tg with
  | Name x px =>
    obtain ⟨i, et, k1, k2⟩ := ckTg_nm h1
    subst et
    exact (ps_name o k1 k2 h2).imp fun Dn σ H q => sem_asgN q
  | Tuple ts k p =>
    obtain ⟨tt, et, k1⟩ := ckTg_tp h1
    subst et
    have plain : swappedStores [.Tuple ts k p] e X.env = pure none → PS X (.Assign [.Tuple ts k p] e pos) (tS X.K xo X.mg G Γ W (.asg (.tp tt) a)) := fun hw => by
      refine (ps_asg (okE a o.o e h2).1 (pg_ok o.o (.tp tt) _ h1) ?_ hw rfl).imp fun Dn σ H q => sem_asg q
      show swapsWith e (some (.Tuple ts k p)) pos.line X.env = pure false
      cases e <;> rfl
    by_cases ha : asgB (.Tuple ts k p) e = true
    · refine plain ?_
      cases e with
      | Tuple vs k2 p2 => exact swapN ha
      | _ => rfl
    · have hp : parB sc (.Tuple ts k p) e = true := by
        rw [Bool.or_eq_true] at h3
        exact h3.resolve_left ha
      unfold parB at hp
      split at hp
      · -- two
        rename_i x px y py k' p' u v k2 p2 e1
        injection e1 with e1 e2 e3
        subst e1 e2 e3
        simp only [Bool.and_eq_true, Bool.not_eq_true'] at hp
        obtain ⟨⟨⟨⟨⟨⟨⟨c1, c2⟩, c3⟩, c4⟩, c5⟩, c6⟩, c7⟩, c8⟩ := hp
        obtain ⟨t1, r1, e1, m1, n1⟩ := ckTgs_cons k1
        obtain ⟨t2, r2, e2, m2, n2⟩ := ckTgs_cons n1
        have e3 := ckTgs_nil n2
        obtain ⟨i, et, q1, q2⟩ := ckTg_nm m1
        obtain ⟨j, eu, q3, q4⟩ := ckTg_nm m2
        subst e3 e2 et eu e1
        obtain ⟨xs, ea, ce⟩ := ckE_tup h2
        subst ea
        obtain ⟨a1, b1, exs⟩ := ckEs_two ce
        subst exs
        have hs := swap2 (env := X.env) (k := k) (p := p) (k2 := k2) (p2 := p2) o.bk (o.kd c1).1 (o.kd c2).1 c3 c4 c5 c6 c7 c8
        exact (ps_par o.o.calm hN (by rw [o.o.hN]; exact atB_e q1) (by rw [o.o.hN]; exact atB_e q3) (at_ne q1 q3 c4) (o.kd c1).2 (o.kd c2).2 (okEs _ o.o _ ce) hs rfl).imp fun Dn σ H q => sem_par q
      · rename_i x px y py z pz k' p' u v w k2 p2 e1
        injection e1 with e1 e2 e3
        subst e1 e2 e3
        simp only [Bool.and_eq_true, Bool.not_eq_true'] at hp
        obtain ⟨⟨⟨⟨⟨⟨⟨⟨⟨⟨⟨⟨c1, c2⟩, c0⟩, c3⟩, c3'⟩, c4⟩, c4'⟩, c4''⟩, c5⟩, c6⟩, c6'⟩, c7⟩, c8⟩ := hp
        obtain ⟨t1, r1, e1, m1, n1⟩ := ckTgs_cons k1
        obtain ⟨t2, r2, e2, m2, n2⟩ := ckTgs_cons n1
        obtain ⟨t3, r3, e4, m3, n3⟩ := ckTgs_cons n2
        have e3 := ckTgs_nil n3
        obtain ⟨i, et, q1, q2⟩ := ckTg_nm m1
        obtain ⟨j, eu, q3, q4⟩ := ckTg_nm m2
        obtain ⟨l, ev, q5, q6⟩ := ckTg_nm m3
        subst e3 e4 e2 et eu ev e1
        obtain ⟨xs, ea, ce⟩ := ckE_tup h2
        subst ea
        obtain ⟨a1, b1, c9, exs⟩ := ckEs_three ce
        subst exs
        have hs := swap3 (env := X.env) (k := k) (p := p) (k2 := k2) (p2 := p2) o.bk (o.kd c1).1 (o.kd c2).1 (o.kd c0).1 c3 c3' c4 c4' c4'' c5 c6 c6' c7 c8
        exact (ps_par3 o.o.calm hN (by rw [o.o.hN]; exact atB_e q1) (by rw [o.o.hN]; exact atB_e q3) (by rw [o.o.hN]; exact atB_e q5) (at_ne q1 q3 c4) (at_ne q1 q5 c4') (at_ne q3 q5 c4'') (o.kd c1).2 (o.kd c2).2 (o.kd c0).2 (okEs _ o.o _ ce) hs rfl).imp fun Dn σ H q => sem_par3 q
      · cases hp
  | _ => cases t <;> exact nomatch h1
theorem few1 {e : Expr} {pos : Pos} {env : PySem.Env} (h : argB e = true) : ((backTo pos (starEach [e] env)).all (fun x => !x.1) && (backToKw pos (keywordEach [] env)).all (fun x => x.1.isSome) && decide (([e] : List Expr).length + ([] : List Keyword).length + (if ([] : List Keyword).isEmpty then 0 else 1) < 30)) = true := by
  rw [starOf h]
  rfl
theorem ps_tryOk (o : XSt X cf sc G Γ xo W) {b : Sxs} {c x n y z : Str} {i j : Nat} {body : List Stmt} {np py pz pa ph pos : Pos} (hb : ∀ (W : WX) (pn : List (Addr × Obj)) (xe : Value → Shared → Prop), Takes (X.tr pn xe) W → PassesOwn (model X.prog X.w) X.A X.env xe → PSs (X.tr pn xe) body (tSs X.K xo X.mg G Γ W b))
    (h1 : x = c) (h2 : glB sc x = true ∧ okN x = true) (h3 : c ∈ cf.cx) (h4 : exNames.contains c = true) (h5 : atB cf.N i n = true) (h6 : lcB sc n = true) (h7 : z = n) (h8 : nmB cf sc i z = true) (h9 : atB cf.N j y = true) (h10 : stB sc none y = true) :
    PS X (.Try body [.ExceptHandler (some (.Name x np)) (some n) [.Assign [.Name y py] (.Name z pz) pa] ph] [] [] pos) (tS X.K xo X.mg G Γ W (.tryc b c i j)) := by
  subst h1 h7
  have hN : X.N.Nodup := by rw [o.o.hN]; exact o.o.nd
  have hc : ∃ C, X.mg x = some (.ref C) := by
    rcases o.o.m.cxs x h3 with ⟨e1, _⟩ | ⟨C, e1, _⟩
    · subst e1
      exact absurd h4 (by decide +kernel)
    · exact ⟨C, e1⟩
  obtain ⟨C, hm⟩ := hc
  obtain ⟨v1, v2, v3, v4⟩ := o.o.nm h8
  refine (ps_try_cat (i := i) (c := .ref C) (tb := fun W => tSs X.K xo X.mg G Γ W b) o.noex o.stk o.frm hN (by rw [o.o.hN]; exact atB_e h5) (o.kd h6).1 ⟨o.o.gl h2.1, (okN_d h2.2).1, .inl hm⟩ o.o.tk hb fun a pn => ?_).imp fun Dn σ H q => sem_tryc o.o.m.exf o.o.m.xof h4 hm q
  exact (pss_one (ps_set (X := X.suite a pn) (i := j) hN (by show X.N[j]? = some y; rw [o.o.hN]; exact atB_e h9) (by show Loc X.env.scope y; rw [o.o.hsc]; exact stB_loc h10) (pe_var (X := X.suite a pn) v1 v2 v3 v4) rfl (o.o.fn y h10))).imp fun Dn σ H q => q
/-- raise x(e), x a class with a making of its own -/
theorem ps_raiEOk (o : XSt X cf sc G Γ xo W) {a : Ex} {x : Str} {e : Expr} {p pos2 pos : Pos} (h2 : x ∈ cf.e1) (h3 : glB sc x = true) (h4 : okN x = true) (h5 : argB e = true) (h6 : ckE cf sc none a e = true) :
    PS X (.Raise (some (.Call (.Name x p) [e] [] pos2)) none pos) (tS X.K xo X.mg G Γ W (.rai x (.cons a .nil))) := by
  obtain ⟨n, ⟨C, fI, fd, ps, hm, T, F, hb, _⟩, hr⟩ := o.e1 x h2
  have hp := okEs (.cons a .nil) o.o [e] (show (argB e && ckE cf sc none a e && true) = true by rw [h5, h6]; rfl)
  exact (ps_raise o.o.calm o.o.tk (pmk_oex T.oex T.ini T.tin F hr hb .nil (fun _ _ _ _ _ _ _ z => z.elim) (o.o.gl h3) hm hp (okN_d h4).1 (starOf h5) rfl)).imp fun Dn σ H q => sem_raiE hm q
theorem ps_trydOk (o : XSt X cf sc G Γ xo W) {b : Sxs} {c n y u : Str} {i j k : Nat} {body : List Stmt} {hds : List ExceptHandler} {np py pz pa pu pz2 pf pa2 ph pos : Pos} (hb : ∀ (W : WX) (pn : List (Addr × Obj)) (xe : Value → Shared → Prop), Takes (X.tr pn xe) W → PassesOwn (model X.prog X.w) X.A X.env xe → PSs (X.tr pn xe) body (tSs X.K xo X.mg G Γ W b))
    (h2 : glB sc c = true ∧ okN c = true) (h3 : c ∈ cf.e1) (h4 : exNames.contains c = true) (h5 : atB cf.N i n = true) (h6 : lcB sc n = true) (h8 : nmB cf sc i n = true) (h9 : atB cf.N j y = true) (h10 : stB sc none y = true) (h11 : atB cf.N k u = true) (h12 : stB sc none u = true) :
    PS X (.Try body (.ExceptHandler (some (.Name c np)) (some n) [.Assign [.Name y py] (.Name n pz) pa, .Assign [.Name u pu] (.Attribute (.Name n pz2) (fieldOf c) pf) pa2] ph :: hds) [] [] pos) (tS X.K xo X.mg G Γ W (.tryd b c i j k)) := by
  have hN : X.N.Nodup := by rw [o.o.hN]; exact o.o.nd
  obtain ⟨m, ⟨C, fI, fd, ps, hm, T, F, hbi, _⟩, hr⟩ := o.e1 c h3
  obtain ⟨v1, v2, v3, v4⟩ := o.o.nm h8
  refine (ps_try_cat2 (i := i) (c := .ref C) (tb := fun W => tSs X.K xo X.mg G Γ W b) o.noex o.stk o.frm hN (by rw [o.o.hN]; exact atB_e h5) (o.kd h6).1 ⟨o.o.gl h2.1, (okN_d h2.2).1, .inl hm⟩ hb fun a pn cls d => ?_).imp fun Dn σ H q => sem_tryd o.o.m.exf o.xof1 h4 hm T.fld q
  exact pss_cons (ps_set (X := X.suite a pn) (i := j) hN (by show X.N[j]? = some y; rw [o.o.hN]; exact atB_e h9) (by show Loc X.env.scope y; rw [o.o.hsc]; exact stB_loc h10) (pe_var (X := X.suite a pn) v1 v2 v3 v4) rfl (o.o.fn y h10))
    (pss_one (ps_set (X := X.suite a pn) (i := k) hN (by show X.N[k]? = some u; rw [o.o.hN]; exact atB_e h11) (by show Loc X.env.scope u; rw [o.o.hsc]; exact stB_loc h12) (pe_fld (X := X.suite a pn) (pe_var (X := X.suite a pn) v1 v2 v3 v4)) rfl (o.o.fn u h12)))
mutual
theorem okS : ∀ (s : Sx) {X : Cx} {W : WX} (o : XSt X cf sc G Γ xo W) (st : Stmt), ckS cf sc s st = true → PS X st (tS X.K xo X.mg G Γ W s)
  | .spl i j a, X, W, o, st, h => by
    cases st with
    | Assign ts e pos =>
      match ts, e, h with
      | [.Tuple [.Name x p1, .Starred (.Name y p2) p3] k p], .Name z pz, h =>
        have h : (atB cf.N i x && stB sc none x && atB cf.N j y && stB sc none y && ckE cf sc none a (.Name z pz)) = true := h
        simp only [Bool.and_eq_true] at h
        obtain ⟨⟨⟨⟨h1, h2⟩, h3⟩, h4⟩, h5⟩ := h
        exact (ps_asg (okE a o.o _ h5).1 (pg_star o.o.calm (by rw [o.o.hN]; exact o.o.nd) (by rw [o.o.hN]; exact atB_e h1) (by rw [o.o.hN]; exact atB_e h3) (by rw [o.o.hsc]; exact stB_loc h2) (by rw [o.o.hsc]; exact stB_loc h4) (o.o.fn x h2) (o.o.fn y h4)) rfl rfl rfl).imp fun Dn σ H q => sem_spl q
    | _ => exact nomatch h
  | .asg t a, X, W, o, st, h => by
    cases st with
    | Assign ts e pos =>
      match ts, h with
      | [tg], h =>
        have h : (ckTg cf sc none t tg && ckE cf sc none a e && (asgB tg e || parB sc tg e)) = true := h
        rw [Bool.and_eq_true, Bool.and_eq_true] at h
        exact ps_asgOk o h.1.1 h.1.2 h.2
    | _ => exact nomatch h
  | .own i a, X, W, o, st, h => by
    cases st with
    | Assign ts e pos =>
      match ts, h with
      | [.Name x px], h =>
        have h : (atB cf.N i x && stB sc none x && ckE cf sc none a e) = true := h
        simp only [Bool.and_eq_true] at h
        exact (ps_name o h.1.1 h.1.2 h.2).imp fun Dn σ H q => sem_own q
    | _ => exact nomatch h
  | .seti i k a, X, W, o, st, h => by
    cases st with
    | Assign ts e pos =>
      match ts, h with
      | [.Subscript (.Name x px) sl p], h =>
        have h : (nmB cf sc i x && plainB sl && ckE cf sc none k sl && ckE cf sc none a e) = true := h
        simp only [Bool.and_eq_true] at h
        obtain ⟨⟨⟨h1, h2⟩, h3⟩, h4⟩ := h
        obtain ⟨v1, v2, v3, v4⟩ := o.o.nm h1
        refine (ps_asg (okE a o.o e h4).1 (pg_sub (pe_var v1 v2 v3 v4) (okE k o.o sl h3).1 set_list ?_) ?_ ?_ rfl).imp fun Dn σ H q => sem_seti q
        · intro v
          cases sl <;> first | rfl | cases h2
        · show swapsWith e (some (.Subscript (.Name x px) sl p)) pos.line X.env = pure false
          cases e <;> rfl
        · rfl
    | _ => exact nomatch h
  | .app i a, X, W, o, st, h => by
    cases st with
    | Expr e0 pos =>
      match e0, h with
      | .Call (.Attribute (.Name x px) m ap) [e] [] cp, h =>
        have h : (nmB cf sc i x && m == ("append" : Str) && ap.endLine == cp.line && argB e && ckE cf sc none a e) = true := h
        simp only [Bool.and_eq_true] at h
        obtain ⟨⟨⟨⟨h1, h2⟩, h3⟩, h4⟩, h5⟩ := h
        obtain ⟨v1, v2, v3, v4⟩ := o.o.nm h1
        have em : m = ("append" : Str) := by simpa using h2
        subst em
        exact (ps_expr (pe_bm PySem.F.plainAttrs_list PySem.F.slot_list_append PySem.F.type_list_append mt_append (pe_var v1 v2 v3 v4) (pa_cons (okE a o.o e h5).1 pa_nil (starOf h4)) rfl (few1 h4) h3 (starOf h4) rfl) rfl).imp fun Dn σ H q => sem_app q
    | _ => exact nomatch h
  | .aug i op a, X, W, o, st, h => by
    cases st <;> exact nomatch h
  | .ife c a b, X, W, o, st, h => by
    cases st with
    | If t x y pos =>
      have h : (ckE cf sc none c t && ckSs cf sc a x && ckSs cf sc b y) = true := h
      simp only [Bool.and_eq_true] at h
      exact (ps_if (okE c o.o t h.1.1).2 (okSs a o x h.1.2) (okSs b o y h.2)).imp fun Dn σ H q => sem_ifS q
    | _ => exact nomatch h
  | .for_ g it b, X, W, o, st, h => by
    cases st with
    | For tg iter body orelse pos =>
      cases orelse with
      | cons _ _ => exact nomatch h
      | nil =>
        have h : (ckTg cf sc none g tg && ckIt cf sc none it (isTup tg) iter && ckSs cf sc b body) = true := h
        simp only [Bool.and_eq_true] at h
        have hi := okIt it o.o tg iter h.1.2
        exact (ps_for o.po o.o.calm hi.1 (pg_ok o.o g tg h.1.1) (okSs b o body h.2) hi.2).imp fun Dn σ H q => sem_for q
    | _ => exact nomatch h
  | .whil n c b, X, W, o, st, h => by
    cases st with
    | While t body orelse pos =>
      cases orelse with
      | cons _ _ => exact nomatch h
      | nil =>
        have h : (ckE cf sc none c t && ckSs cf sc b body) = true := h
        rw [Bool.and_eq_true] at h
        exact (ps_while o.po (okE c o.o t h.1).2 (okSs b o body h.2)).imp fun Dn σ H q => sem_whil q
    | _ => exact nomatch h
  | .ret a, X, W, o, st, h => by
    cases st with
    | Return v pos =>
      cases v with
      | none => exact nomatch h
      | some e => exact (ps_ret (okE a o.o e h).1).imp fun Dn σ H q => sem_ret q
    | _ => exact nomatch h
  | .retn, X, W, o, st, h => by
    cases st with
    | Return v pos =>
      cases v with
      | some _ => exact nomatch h
      | none => exact ps_retN.imp fun Dn σ H q => sem_retn q
    | _ => exact nomatch h
  | .rai c es, X, W, o, st, h => by
    cases es with
    | cons a es =>
      cases es with
      | cons _ _ => cases st <;> exact nomatch h
      | nil =>
        cases st with
        | Raise e fr pos =>
          match e, fr, h with
          | some (.Call (.Name x p) [e] [] pos2), none, h =>
            have h : (x == c && cf.e1.contains x && gnB sc x && argB e && ckE cf sc none a e) = true := h
            unfold gnB at h
            simp only [Bool.and_eq_true] at h
            obtain ⟨⟨⟨⟨h1, h2⟩, h3, h4⟩, h5⟩, h6⟩ := h
            have ex : x = c := by simpa using h1
            subst ex
            exact ps_raiEOk o (by simpa using h2) h3 h4 h5 h6
        | _ => exact nomatch h
    | nil =>
      cases st with
      | Raise e fr pos =>
        match e, fr, h with
        | some (.Call (.Name x p) [.Constant (.str m) j p2] [] pos2), none, h =>
          have h : (x == c && cf.ex.contains x && gnB sc x) = true := h
          unfold gnB at h
          simp only [Bool.and_eq_true] at h
          obtain ⟨⟨h1, h2⟩, h3, h4⟩ := h
          have ex : x = c := by simpa using h1
          subst ex
          have hm : x ∈ cf.ex := by simpa using h2
          obtain ⟨C, g1, g2, g3, g4, g5⟩ := o.exc x hm
          exact (ps_raise o.o.calm o.o.tk (pmk_own PySem.F.excBase_ValueError g2 g1 g3 (raises_own g4 g5) (o.o.gl h3) (okN_d h4).1)).imp fun Dn σ H q => sem_rai g1 q
      | _ => exact nomatch h
  | .ex a, X, W, o, st, h => by
    cases st with
    | Expr e pos =>
      have h : (noComp e && ckE cf sc none a e) = true := h
      rw [Bool.and_eq_true] at h
      exact (ps_expr (okE a o.o e h.2).1 (swapsOf h.1 _ _)).imp fun Dn σ H q => sem_ex q
    | _ => exact nomatch h
  | .pass, X, W, o, st, h => by
    cases st with
    | Pass pos => exact ps_pass.imp fun Dn σ H q => sem_pass q
    | _ => exact nomatch h
  | .brk, X, W, o, st, h => by
    cases st with
    | Break pos => exact ps_break.imp fun Dn σ H q => sem_brk q
    | _ => exact nomatch h
  | .cnt, X, W, o, st, h => by
    cases st with
    | Continue pos => exact ps_continue.imp fun Dn σ H q => sem_cnt q
    | _ => exact nomatch h
  | .tryc b c i j, X, W, o, st, h => by
    have h : (match tryOf st with
      | some (body, x, n, y, z) => x == c && gnB sc x && cf.cx.contains c && exNames.contains c && atB cf.N i n && lcB sc n && z == n && nmB cf sc i z && atB cf.N j y && stB sc none y && ckSs cf sc b body
      | none => false) = true := h
    cases ht : tryOf st with
    | none => rw [ht] at h; cases h
    | some q =>
      obtain ⟨body, x, n, y, z⟩ := q
      rw [ht] at h
      obtain ⟨np, py, pz, pa, ph, pos, est⟩ := tryOf_eq ht
      have h : (x == c && gnB sc x && cf.cx.contains c && exNames.contains c && atB cf.N i n && lcB sc n && z == n && nmB cf sc i z && atB cf.N j y && stB sc none y && ckSs cf sc b body) = true := h
      unfold gnB at h
      simp only [Bool.and_eq_true] at h
      obtain ⟨⟨⟨⟨⟨⟨⟨⟨⟨⟨h1, h2⟩, h3⟩, h4⟩, h5⟩, h6⟩, h7⟩, h8⟩, h9⟩, h10⟩, h11⟩ := h
      have hb := fun (W : WX) (pn : List (Addr × Obj)) (xe : Value → Shared → Prop) (tk : Takes (X.tr pn xe) W) (po : PassesOwn (model X.prog X.w) X.A X.env xe) => okSs b (X := X.tr pn xe) (W := W) ⟨⟨o.o.m, o.o.hN, o.o.nd, o.o.hsc, o.o.calm, o.o.fn, tk, o.o.lam⟩, po, o.bk, o.exc, o.e1, o.xof1, o.stk, o.frm, o.noex⟩ body h11
      rw [est]
      exact ps_tryOk o hb (by simpa using h1) h2 (by simpa using h3) h4 h5 h6 (by simpa using h7) h8 h9 h10
  | .tryd b c i j k, X, W, o, st, h => by
    have h : (match trydOf st with
      | some (body, x, n, y, z, u, z2, f) => x == c && gnB sc x && cf.e1.contains x && exNames.contains c && atB cf.N i n && lcB sc n && z == n && z2 == n && nmB cf sc i z && atB cf.N j y && stB sc none y && atB cf.N k u && stB sc none u && f == fieldOf c && ckSs cf sc b body
      | none => false) = true := h
    cases ht : trydOf st with
    | none => rw [ht] at h; cases h
    | some q =>
      obtain ⟨body, x, n, y, z, u, z2, f⟩ := q
      rw [ht] at h
      obtain ⟨np, py, pz, pa, pu, pz2, pf, pa2, ph, hds, pos, est⟩ := trydOf_eq ht
      have h : (x == c && gnB sc x && cf.e1.contains x && exNames.contains c && atB cf.N i n && lcB sc n && z == n && z2 == n && nmB cf sc i z && atB cf.N j y && stB sc none y && atB cf.N k u && stB sc none u && f == fieldOf c && ckSs cf sc b body) = true := h
      unfold gnB at h
      simp only [Bool.and_eq_true] at h
      obtain ⟨⟨⟨⟨⟨⟨⟨⟨⟨⟨⟨⟨⟨⟨h1, h2⟩, h3⟩, h4⟩, h5⟩, h6⟩, h7⟩, h7'⟩, h8⟩, h9⟩, h10⟩, h11⟩, h12⟩, h13⟩, h14⟩ := h
      have e1 : x = c := by simpa using h1
      have e2 : z = n := by simpa using h7
      have e3 : z2 = n := by simpa using h7'
      have e4 : f = fieldOf c := by simpa using h13
      subst e1 e2 e4
      subst e3
      have hb := fun (W : WX) (pn : List (Addr × Obj)) (xe : Value → Shared → Prop) (tk : Takes (X.tr pn xe) W) (po : PassesOwn (model X.prog X.w) X.A X.env xe) => okSs b (X := X.tr pn xe) (W := W) ⟨⟨o.o.m, o.o.hN, o.o.nd, o.o.hsc, o.o.calm, o.o.fn, tk, o.o.lam⟩, po, o.bk, o.exc, o.e1, o.xof1, o.stk, o.frm, o.noex⟩ body h14
      rw [est]
      exact ps_trydOk o hb h2 (by simpa using h3) h4 h5 h6 h8 h9 h10 h11 h12
  | .unk, X, W, o, st, h => ⟨fun pins s σ H D I q => by
    obtain ⟨B, F, e, r, q⟩ := q
    exact q.elim⟩
theorem okSs : ∀ (ss : Sxs) {X : Cx} {W : WX} (o : XSt X cf sc G Γ xo W) (sts : List Stmt), ckSs cf sc ss sts = true → PSs X sts (tSs X.K xo X.mg G Γ W ss)
  | .nil, X, W, o, [], _ => pss_nil.imp fun Dn σ H q => sem_snil q
  | .cons s ss, X, W, o, t :: ts, h => by
    have h : (ckS cf sc s t && ckSs cf sc ss ts) = true := h
    rw [Bool.and_eq_true] at h
    exact (pss_cons (okS s o t h.1) (okSs ss o ts h.2)).imp fun Dn σ H q => sem_scons q
  | .nil, X, W, o, _ :: _, h => nomatch h
  | .cons _ _, X, W, o, [], h => nomatch h
end
end
end DL


set_option Elab.async false
set_option linter.all false
set_option maxRecDepth 100000
set_option maxHeartbeats 800000
/-! DL21: a def keeps its promise. -/
namespace DL
open PySem PySem.Spec PyProof.Rows L2

section
variable {K : PySem.W.Frag} {xo : XO} {mg : Str → Option Value} {G : List D} {Γ : List Fn} {F H : Hp}
theorem ann_fn {k : ScopeKind} (h : k = .function) : (if k.isAnnotationScope then ScopeKind.function else k) = .function := by
  subst h
  rfl
theorem start_get {N : List Str} {vs : List V} {i : Nat} {v : V} (h : vs[i]? = some v) : (start N vs)[i]? = some (some v) := by
  have hi := (List.getElem?_eq_some_iff.mp h).1
  unfold L2.start
  rw [List.getElem?_append_left (by rw [List.length_map]; exact hi), List.getElem?_map, h]
  rfl
theorem start_len {N : List Str} {vs : List V} (h : vs.length ≤ N.length) : (start N vs).length = N.length := by
  unfold L2.start
  rw [List.length_append, List.length_map, List.length_replicate]
  omega
/-- the slots at a def's entry -/
def env0 (own : Bool) (n : Nat) (o xs : List D) : Env := ((if own then [Slot.own true o] else []) ++ xs.map Slot.val) ++ List.replicate (n - ((if own then [Slot.own true o] else []) ++ xs.map Slot.val).length) .un
def finF (own : Bool) (e : Env) (f : List D → FR) : FR := if own then (match (e[0]? : Option Slot) with | some (Slot.own true o') => f o' | _ => FR.bad) else f []
theorem evF_eq (own : Bool) (n : Nat) (b : Sxs) (o xs : List D) : evF G Γ own n b o xs = (match evSs G Γ b (env0 own n o xs) with
  | .nx e => finF own e (.ret (.d .none))
  | .rt v e => finF own e (.ret v)
  | .exn c ps e => finF own e (.exn c ps)
  | _ => .bad) := rfl
theorem un_rep {n i : Nat} {s : Slot} (h : (List.replicate n Slot.un)[i]? = some s) : s = .un := by
  rw [List.getElem?_replicate] at h
  split at h
  · exact (Option.some.inj h).symm
  · cases h
/-- plain data at the entry -/
theorem entry0 {N : List Str} {vs : List V} {ds : List D} (tb : LamX.Tabs xo.T H) (s : SameN F H) (dv : DenAll K xo F vs ds) (hl : vs.length ≤ N.length) : Rel K xo ⟨H, F, fun _ => False, none⟩ F (start N vs) H (env0 false N.length [] ds) := by
  have hv := dv.length
  have ee : env0 false N.length [] ds = ds.map Slot.val ++ List.replicate (N.length - ds.length) .un := by
    unfold env0
    simp
  have get : ∀ (i : Nat) (s : Slot), (env0 false N.length [] ds)[i]? = some s → s = .un ∨ ∃ d, ds[i]? = some d ∧ s = .val d := fun i s h => by
    rw [ee] at h
    by_cases hi : i < ds.length
    · rw [List.getElem?_append_left (by rw [List.length_map]; exact hi), List.getElem?_map] at h
      cases q : ds[i]? with
      | none => rw [q] at h; cases h
      | some d => rw [q] at h; exact .inr ⟨d, rfl, (Option.some.inj h).symm⟩
    · rw [List.getElem?_append_right (by rw [List.length_map]; omega)] at h
      exact .inl (un_rep h)
  refine ⟨s.1, Same.refl _, fun a h => .inl h, (fun a z => nomatch (z : (none : Option Addr) = some a)), fun a o h _ _ => h, fun a ps h => ⟨ps, h⟩, ⟨tb, s.2⟩, (fun a (z : False) => z.elim), ?_, fun i d h => ?_, fun i p es h => ?_, fun i j a p q es fs h => ?_⟩
  · rw [start_len hl, ee, List.length_append, List.length_map, List.length_replicate]
    omega
  · rcases get i _ h with z | ⟨d', h1, h2⟩
    · cases z
    · injection h2 with h2
      subst h2
      obtain ⟨v, g1, g2⟩ := dv.get h1
      exact ⟨v, start_get g1, g2⟩
  · rcases get i _ h with z | ⟨d', h1, h2⟩
    · cases z
    · cases h2
  · rcases get i _ h with z | ⟨d', h1, h2⟩
    · cases z
    · cases h2
/-- a list handed in as one's own -/
theorem entry1 {N : List Str} {a : Addr} {ws : List V} {o : List D} {vs : List V} {ds : List D} (tb : LamX.Tabs xo.T H) (s : SameN F H) (ha : H a = some (.lst ws)) (hF : F a = none) (dw : DenAll K xo F ws o) (dv : DenAll K xo F vs ds) (hl : vs.length + 1 ≤ N.length) :
    Rel K xo ⟨H, F, fun b => b = a, some a⟩ F (start N (.ref a :: vs)) H (env0 true N.length o ds) := by
  have hv := dv.length
  have ee : env0 true N.length o ds = (Slot.own true o :: ds.map Slot.val) ++ List.replicate (N.length - (ds.length + 1)) .un := by
    unfold env0
    simp
  have get : ∀ (i : Nat) (s : Slot), (env0 true N.length o ds)[i]? = some s → s = .un ∨ (i = 0 ∧ s = .own true o) ∨ ∃ d j, i = j + 1 ∧ ds[j]? = some d ∧ s = .val d := fun i s h => by
    rw [ee] at h
    cases i with
    | zero => exact .inr (.inl ⟨rfl, (Option.some.inj (show some _ = some _ from h)).symm⟩)
    | succ i =>
      have h : (ds.map Slot.val ++ List.replicate (N.length - (ds.length + 1)) .un)[i]? = some s := h
      by_cases hi : i < ds.length
      · rw [List.getElem?_append_left (by rw [List.length_map]; exact hi), List.getElem?_map] at h
        cases q : ds[i]? with
        | none => rw [q] at h; cases h
        | some d => rw [q] at h; exact .inr (.inr ⟨d, i, rfl, q, (Option.some.inj h).symm⟩)
      · rw [List.getElem?_append_right (by rw [List.length_map]; omega)] at h
        exact .inl (un_rep h)
  refine ⟨s.1, Same.refl _, fun a h => .inl h, fun b z => ?_, fun b u h z _ => h, fun b ps h => ⟨ps, h⟩, ⟨tb, s.2⟩, fun b z => ?_, ?_, fun i d h => ?_, fun i p es h => ?_, fun i j b p q es fs h h2 _ _ => ?_⟩
  · injection z with z
    subst z
    show H a ≠ none
    rw [ha]
    exact fun z => nomatch z
  · have z : b = a := z
    subst z
    rw [ha]
    exact fun z => nomatch z
  · rw [start_len (by rw [List.length_cons]; exact hl), ee, List.length_append, List.length_cons, List.length_map, List.length_replicate]
    omega
  · rcases get i _ h with z | ⟨_, z⟩ | ⟨d', j, hj, h1, h2⟩
    · cases z
    · cases z
    · injection h2 with h2
      subst h2 hj
      obtain ⟨v, g1, g2⟩ := dv.get h1
      exact ⟨v, start_get (vs := .ref a :: vs) (i := j + 1) (by simpa using g1), g2⟩
  · rcases get i _ h with z | ⟨hi, z⟩ | ⟨d', j, hj, h1, h2⟩
    · cases z
    · injection z with z1 z2
      subst z1 z2 hi
      exact ⟨a, ws, start_get (vs := .ref a :: vs) (i := 0) rfl, ha, hF, dw, .inl rfl, fun _ => rfl, fun _ => rfl⟩
    · cases h2
  · rcases get i _ h with z | ⟨hi, _⟩ | ⟨d', j, hj, h1, z⟩
    · cases z
    · rcases get j _ h2 with y | ⟨hj, _⟩ | ⟨d', j, hj, h1, y⟩
      · cases y
      · rw [hi, hj]
      · cases y
    · cases z
theorem fin0 {σ' : L2.St} {H' F' : Hp} {e : Env} (r : Rel K xo ⟨H, F, fun _ => False, none⟩ F' σ' H' e) : Fin' K xo F H none [] F' H' := by
  refine ⟨r.sub0, r.sub, fun a h => ?_, fun a o h _ t => r.keep a o h (fun z => z) t, r.tbk, r.tabs, fun a z => nomatch z⟩
  rcases r.new a h with z | z | ⟨z, _⟩
  · exact .inl z
  · exact .inr z
  · exact z.elim
theorem fin1 {a : Addr} {σ' : L2.St} {H' F' : Hp} {e : Env} {o' : List D} (r : Rel K xo ⟨H, F, fun b => b = a, some a⟩ F' σ' H' e) (h0 : e[0]? = some (.own true o')) : Fin' K xo F H (some a) o' F' H' := by
  refine ⟨r.sub0, r.sub, fun b h => ?_, fun b o h ne t => r.keep b o h (fun z => ne (by rw [show b = a from z])) t, r.tbk, r.tabs, fun b z => ?_⟩
  · rcases r.new b h with z | z | ⟨z, y⟩
    · exact .inl z
    · exact .inr z
    · exact absurd (by rw [show b = a from z]) y
  · injection z with z
    subst z
    obtain ⟨a', ws, g1, g2, g3, g4, g5, g6⟩ := r.own 0 true o' h0
    have e2 : some a = some a' := g6.mp rfl
    injection e2 with e2
    subst e2
    exact ⟨ws, g2, g3, g4⟩
/-- a body, and behind it the def's end -/
theorem post_def0 {Q : VK} {E : XK} {n : Nat} {b : Sxs} {ds : List D} (h : PostF K xo mg F H none (evF G Γ false n b [] ds) Q E) :
    PostS K xo mg (fun cls d _ H => E cls d H) ⟨H, F, fun _ => False, none⟩ F (evSs G Γ b (env0 false n [] ds)) { nx := fun _ H' => Q .non H', rt := Q } := by
  rw [evF_eq] at h
  cases q : evSs G Γ b (env0 false n [] ds) with
  | nx e => rw [q] at h; exact fun σ' H' F' r s => h .non H' F' (fin0 r) .non
  | bk e => rw [q] at h; exact h.elim
  | ct e => rw [q] at h; exact h.elim
  | bad => rw [q] at h; exact h
  | exn c ps e => rw [q] at h; exact fun cls dx σ' H' F' r s x => h cls dx H' F' (fin0 r) x
  | rt v e =>
    rw [q] at h
    cases v with
    | d d => exact fun v σ' H' F' r s x => h v H' F' (fin0 r) x
    | fr xs => exact fun p vs σ' H' F' r s h1 h2 h3 h4 h5 => h p vs H' F' (fin0 r) h1 h2 h3 (h4.elim (fun z => z) fun z => z.1.elim)
theorem post_def1 {Q : VK} {E : XK} {n : Nat} {b : Sxs} {a : Addr} {o ds : List D} (h : PostF K xo mg F H (some a) (evF G Γ true n b o ds) Q E) :
    PostS K xo mg (fun cls d _ H => E cls d H) ⟨H, F, fun b => b = a, some a⟩ F (evSs G Γ b (env0 true n o ds)) { nx := fun _ H' => Q .non H', rt := Q } := by
  rw [evF_eq] at h
  have fe : ∀ (e : Env) (f : List D → FR), PostF K xo mg F H (some a) (finF true e f) Q E → ∃ o', e[0]? = some (.own true o') ∧ PostF K xo mg F H (some a) (f o') Q E := fun e f z => by
    have z : PostF K xo mg F H (some a) (match (e[0]? : Option Slot) with | some (Slot.own true o') => f o' | _ => FR.bad) Q E := z
    cases q : (e[0]? : Option Slot) with
    | none => rw [q] at z; exact z.elim
    | some s =>
      rw [q] at z
      cases s with
      | un => exact z.elim
      | val _ => exact z.elim
      | own p o' =>
        cases p with
        | false => exact z.elim
        | true => exact ⟨o', rfl, z⟩
  cases q : evSs G Γ b (env0 true n o ds) with
  | nx e =>
    rw [q] at h
    obtain ⟨o', h0, h⟩ := fe e _ h
    exact fun σ' H' F' r s => h .non H' F' (fin1 r h0) .non
  | bk e => rw [q] at h; exact h.elim
  | ct e => rw [q] at h; exact h.elim
  | bad => rw [q] at h; exact h
  | exn c ps e =>
    rw [q] at h
    obtain ⟨o', h0, h⟩ := fe e _ h
    exact fun cls dx σ' H' F' r s x => h cls dx H' F' (fin1 r h0) x
  | rt v e =>
    rw [q] at h
    obtain ⟨o', h0, h⟩ := fe e _ h
    cases v with
    | d d => exact fun v σ' H' F' r s x => h v H' F' (fin1 r h0) x
    | fr xs => exact fun p vs σ' H' F' r s h1 h2 h3 h4 h5 => h p vs H' F' (fin1 r h0) h1 h2 h3 (h4.elim (fun z => z) fun z => absurd (by rw [show p = a from z.1]) z.2)
end
section
variable {P : Program} {w : World} {K : PySem.W.Frag} {mg : Str → Option Value} {base : Heap} {xo : XO} {G : List D} {Γ : List Fn} {cf : Cf}
/-- the facts that a def's body leans on -/
structure Facts (P : Program) (w : World) (K : PySem.W.Frag) (mg : Str → Option Value) (base : Heap) (k : Nat) (cf : Cf) (G : List D) (Γ : List Fn) (xo : XO) : Prop where
  glb : ∀ (i : Nat) (x : Str) (d : D), cf.gx[i]? = some x → G[i]? = some d → ∃ v u, mg x = some u ∧ RelV v u ∧ ∀ F, Den K xo F v d
  fun_ : ∀ (i : Nat) (x : Str), cf.fx[i]? = some x → ∃ f, Γ[i]? = some f ∧ CalleeN P w K mg base xo k x f (kwOf cf i)
  blt : ∀ x ∈ bNames, mg x = none
  exf : ExF K mg
  xof : ∀ k o, exNames.contains k = true → (xo k none o ↔ ∃ C a, mg k = some (.ref C) ∧ o = ExP (.ref C) a)
  cxs : ∀ c ∈ cf.cx, (c = ("ValueError" : Str) ∧ mg c = none) ∨ ∃ C, mg c = some (.ref C) ∧ exNames.contains c = true
  exc : ∀ x ∈ cf.ex, ∃ C, mg x = some (.ref C) ∧ PySem.W.excIn K C [.type "ValueError", .type "Exception", .type "BaseException", .type "object"] "ValueError.__new__" = true ∧ PySem.W.keepIn K (.ref C) = true ∧ PySem.W.subIn K (.ref C) (.type "BaseException") = some true ∧ PySem.W.typeIn K (.ref C) = some (.type "type")
  e1 : ∀ x ∈ cf.e1, ∃ n, n + 1 ≤ k ∧ E1 P w K mg base n x
  xofi : ∀ k dx o, exNames.contains k = true → (xo k dx o ↔ ∃ C a, mg k = some (.ref C) ∧ o = ExD (.ref C) dx a)
theorem e1_none (h : cf.e1 = []) {k : Nat} : ∀ x ∈ cf.e1, ∃ n, n + 1 ≤ k ∧ E1 P w K mg base n x := fun x hx => by rw [h] at hx; cases hx
/-- a def that makes lambdas: its code object and its table -/
def LamFd (base : Heap) (mg : Str → Option Value) (T : List (Addr × Str)) (x : Str) (fd : FuncData) : Prop := ∃ c P, fd.code = .ref c ∧ LamX.TabB base mg c P ∧ (P, (x ++ ".<locals>.") ++ "<lambda>") ∈ T ∧ ∀ p ∈ T, p.1 = P → p.2 = (x ++ ".<locals>.") ++ "<lambda>"
theorem lamAt_of {X : Cx} {xo : XO} {x : Str} {fd : FuncData} (h : LamFd X.base X.mg xo.T x fd) (hq : X.env.qual = x ++ ".<locals>.") (hc : X.env.code = fd.code) (hd : X.A.depth < recursionLimit) : LamAt X xo := by
  obtain ⟨c, P, h1, h2, h3, h4⟩ := h
  exact ⟨hd, c, P, hc.trans h1, h2, by rw [hq]; exact h3, by rw [hq]; exact h4⟩
theorem def_ok {x : Str} {params : Arguments} {body : List Stmt} {sc : Scope} {f : Addr} {fd : FuncData} {ps : List Str} {k : Nat} {own : Bool} {b : Sxs} {pd : List V} {kw : List (Str × V)} (Fd : FunD K x x params body sc pd kw f fd) (S : FnScope cf.N ps sc) (hp : ps.length ≤ cf.N.length)
    (hc : ckSs cf sc b body = true) (fx : Facts P w K mg base k cf G Γ xo) (lam : cf.lm = true → LamFd base mg xo.T x fd := by intro h; exact absurd h (by decide)) : FnOk P w K mg base (L2.CX P w) (k + 1) f fd ps (spFn K xo mg ⟨x, own, ps.length, evF G Γ own cf.N.length b⟩) := by
  obtain ⟨oc, od, dV, kV, doc, pm, an, cdv, ct, osl, rfl, lk, hcd, _, _⟩ := Fd.ex
  refine fn_of lk hcd S (fun vs H Q E h => h.1) fun A outer s H vs Q E hr h => ?_
  have hdp : (A.deeper (envOfC x sc s.heap.objs.size f cdv)).depth < recursionLimit := Nat.lt_of_le_of_lt (Nat.le_trans (Nat.le_add_right _ _) (Nat.le_add_right _ _)) hr.dp
  have o : XSt (cxOf (L2.CX P w) P w K mg base cf.N x sc f cdv A outer s H E) cf sc G Γ xo (fun cls d _ H => E cls d H) := by
    refine ⟨⟨⟨?_, fx.glb, fun i y hy => ?_, fx.blt, fx.exf, fx.xof, fx.cxs, fx.exc, fun x hx => ?_, fx.xofi⟩, rfl, S.nd, rfl, rfl, fun _ _ => .inl rfl, takes_of rfl rfl rfl rfl, fun _ hl => lamAt_of (lam hl) rfl rfl hdp⟩, passes_of rfl, ann_fn S.kind, fx.exc, fun x hx => ?_, fun x dx o h => (fx.xofi x dx o h).mpr, rfl, rfl, rfl⟩
    · have := hr.un
      show (A.deeper _).units + 65 < cLine
      omega
    · obtain ⟨g, h1, hc⟩ := fx.fun_ i y hy
      exact ⟨g, h1, k, hc, hr⟩
    · obtain ⟨n, hn, q⟩ := fx.e1 x hx
      exact ⟨n, q, hr.mono hn⟩
    · obtain ⟨n, hn, q⟩ := fx.e1 x hx
      exact ⟨n, q, hr.mono hn⟩
  refine ⟨_, okSs b o body hc, ?_⟩
  obtain ⟨hl, tb, F, sF, h⟩ := h
  have hl : vs.length = ps.length := hl
  rcases h with ⟨ho, ds, dv, hp2⟩ | ⟨ho, a, us, ws, oo, ds, ev, ha, hF, dw, dv, hp2⟩
  · have ho : own = false := ho
    subst ho
    exact ⟨_, F, _, entry0 tb sF dv (by omega), post_def0 hp2⟩
  · have ho : own = true := ho
    subst ho ev
    exact ⟨_, F, _, entry1 tb sF ha hF dw dv (by have e : us.length + 1 = ps.length := hl; omega), post_def1 hp2⟩
end
end DL


set_option Elab.async false
set_option linter.all false
set_option maxRecDepth 100000
set_option maxHeartbeats 8000000
/-! DL22: the defs of a program, one resting on others. -/
namespace DL
open PySem PySem.Spec PyProof.Rows L2

section
variable {P : Program} {w : World} {K : PySem.W.Frag} {mg : Str → Option Value} {base : Heap} {xo : XO} {T : List (Addr × Str)}
/-- a def stands and keeps its promise -/
def Ok (P : Program) (w : World) (K : PySem.W.Frag) (mg : Str → Option Value) (base : Heap) (xo : XO) (k : Nat) (x : Str) (f : Fn) : Prop := Callee P w K mg base xo k x f
theorem Ok.up {j k : Nat} {x : Str} {f : Fn} (o : Ok P w K mg base xo j x f) (h : j ≤ k) : Ok P w K mg base xo k x f := by
  obtain ⟨a, fd, ps, dvs, ds, sp0, h1, h2⟩ := o
  exact ⟨a, fd, ps, dvs, ds, sp0, h1.mono h, h2⟩
/-- a def of which the last arguments are its defaults -/
def capFn (f : Fn) (df : List D) : Fn := ⟨f.name, f.own, f.np - df.length, fun o xs => f.run o (xs ++ df)⟩
theorem cap_sp {f : Fn} {df : List D} {dvs : List V} (ho : f.own = false) (hn : df.length ≤ f.np) (dv : ∀ F, DenAll K xo F dvs df) (vs : List V) (H : Hp) (Q : VK) (E : XK) (h : spFn K xo mg (capFn f df) vs H Q E) : spFn K xo mg f (vs ++ dvs) H Q E := by
  obtain ⟨hl, tb, F, s, h⟩ := h
  have hl : vs.length = f.np - df.length := hl
  have l2 := (dv F).length
  refine ⟨by rw [List.length_append, hl, l2]; omega, tb, F, s, ?_⟩
  rcases h with ⟨_, ds, dd, hp⟩ | ⟨z, _⟩
  · exact .inl ⟨ho, ds ++ df, dd.append (dv F), hp⟩
  · have z : f.own = true := z
    rw [ho] at z
    cases z
/-- .. its last argument handed in by its name -/
def OkN (P : Program) (w : World) (K : PySem.W.Frag) (mg : Str → Option Value) (base : Heap) (xo : XO) (k : Nat) (nm : Str) (x : Str) (f : Fn) : Prop := KCallee P w K mg base xo k nm x f
theorem OkN.up {j k : Nat} {nm x : Str} {f : Fn} (o : OkN P w K mg base xo j nm x f) (h : j ≤ k) : OkN P w K mg base xo k nm x f := by
  obtain ⟨a, fd, ps, m, g, sp0, h1, h2⟩ := o
  exact ⟨a, fd, ps, m, g, sp0, h1.mono h, h2⟩
def FunAll (P : Program) (w : World) (K : PySem.W.Frag) (mg : Str → Option Value) (base : Heap) (xo : XO) (k : Nat) : List Str → List (Option Str) → List Fn → Prop
  | x :: xs, [], f :: fs => Ok P w K mg base xo k x f ∧ FunAll P w K mg base xo k xs [] fs
  | x :: xs, none :: ns, f :: fs => Ok P w K mg base xo k x f ∧ FunAll P w K mg base xo k xs ns fs
  | x :: xs, some nm :: ns, f :: fs => OkN P w K mg base xo k nm x f ∧ FunAll P w K mg base xo k xs ns fs
  | [], _, [] => True
  | _, _, _ => False
theorem FunAll.at {k : Nat} : ∀ {xs : List Str} {ns : List (Option Str)} {fs : List Fn}, FunAll P w K mg base xo k xs ns fs → ∀ (i : Nat) (x : Str), xs[i]? = some x → ∃ f, fs[i]? = some f ∧ CalleeN P w K mg base xo k x f ((ns[i]?).join)
  | x :: xs, [], f :: fs, h, 0, y, e => by
    have e' := Option.some.inj (show some x = some y from e)
    subst e'
    exact ⟨f, rfl, h.1⟩
  | x :: xs, none :: ns, f :: fs, h, 0, y, e => by
    have e' := Option.some.inj (show some x = some y from e)
    subst e'
    exact ⟨f, rfl, h.1⟩
  | x :: xs, some nm :: ns, f :: fs, h, 0, y, e => by
    have e' := Option.some.inj (show some x = some y from e)
    subst e'
    exact ⟨f, rfl, h.1⟩
  | x :: xs, [], f :: fs, h, i + 1, y, e => by
    obtain ⟨g, h1, h2⟩ := FunAll.at (ns := []) h.2 i y (by simpa using e)
    exact ⟨g, by simpa using h1, by simpa using h2⟩
  | x :: xs, none :: ns, f :: fs, h, i + 1, y, e => by
    obtain ⟨g, h1, h2⟩ := FunAll.at h.2 i y (by simpa using e)
    exact ⟨g, by simpa using h1, by simpa using h2⟩
  | x :: xs, some nm :: ns, f :: fs, h, i + 1, y, e => by
    obtain ⟨g, h1, h2⟩ := FunAll.at h.2 i y (by simpa using e)
    exact ⟨g, by simpa using h1, by simpa using h2⟩
  | [], _, _, _, i, y, e => by simp at e
  | _ :: _, [], [], h, _, _, _ => h.elim
  | _ :: _, none :: _, [], h, _, _, _ => h.elim
  | _ :: _, some _ :: _, [], h, _, _, _ => h.elim
/-- the module's ints -/
def GlbAll (mg : Str → Option Value) : List Str → List D → Prop
  | x :: xs, .int i :: ds => (∃ t, mg x = some (.int i t)) ∧ GlbAll mg xs ds
  | [], [] => True
  | _, _ => False
theorem GlbAll.at : ∀ {xs : List Str} {ds : List D}, GlbAll mg xs ds → ∀ (i : Nat) (x : Str) (d : D), xs[i]? = some x → ds[i]? = some d → ∃ v u, mg x = some u ∧ RelV v u ∧ ∀ F, Den K xo F v d
  | x :: xs, .int n :: ds, h, 0, y, d, e, e2 => by
    have e' := Option.some.inj (show some x = some y from e)
    have e2' := Option.some.inj (show some (.int n) = some d from e2)
    subst e' e2'
    obtain ⟨t, ht⟩ := h.1
    exact ⟨.int n, _, ht, ⟨t, rfl⟩, fun _ => .int n⟩
  | x :: xs, .int n :: ds, h, i + 1, y, d, e, e2 => GlbAll.at h.2 i y d (by simpa using e) (by simpa using e2)
  | [], _, _, i, y, d, e, _ => by simp at e
def ExcAll (K : PySem.W.Frag) (mg : Str → Option Value) : List Str → Prop
  | x :: xs => (∃ C, mg x = some (.ref C) ∧ PySem.W.excIn K C [.type "ValueError", .type "Exception", .type "BaseException", .type "object"] "ValueError.__new__" = true ∧ PySem.W.keepIn K (.ref C) = true ∧ PySem.W.subIn K (.ref C) (.type "BaseException") = some true ∧ PySem.W.typeIn K (.ref C) = some (.type "type")) ∧ ExcAll K mg xs
  | [] => True
theorem ExcAll.at : ∀ {xs : List Str}, ExcAll K mg xs → ∀ x ∈ xs, ∃ C, mg x = some (.ref C) ∧ PySem.W.excIn K C [.type "ValueError", .type "Exception", .type "BaseException", .type "object"] "ValueError.__new__" = true ∧ PySem.W.keepIn K (.ref C) = true ∧ PySem.W.subIn K (.ref C) (.type "BaseException") = some true ∧ PySem.W.typeIn K (.ref C) = some (.type "type")
  | [], _, x, hx => by simp at hx
  | y :: ys, h, x, hx => by
    rcases List.mem_cons.mp hx with e | hx
    · subst e; exact h.1
    · exact ExcAll.at h.2 x hx
/-- the classes that are asked for -/
def CxAll (mg : Str → Option Value) : List Str → Prop
  | x :: xs => ((x = ("ValueError" : Str) ∧ mg x = none) ∨ ∃ C, mg x = some (.ref C) ∧ exNames.contains x = true) ∧ CxAll mg xs
  | [] => True
theorem CxAll.at : ∀ {xs : List Str}, CxAll mg xs → ∀ x ∈ xs, (x = ("ValueError" : Str) ∧ mg x = none) ∨ ∃ C, mg x = some (.ref C) ∧ exNames.contains x = true
  | [], _, x, hx => by simp at hx
  | y :: ys, h, x, hx => by
    rcases List.mem_cons.mp hx with e | hx
    · subst e; exact h.1
    · exact CxAll.at h.2 x hx
/-- how an exception is held -/
def xoE (mg : Str → Option Value) (T : List (Addr × Str)) : XO := ⟨fun k dx o => exNames.contains k = true ∧ ∃ C a, mg k = some (.ref C) ∧ o = ExD (.ref C) dx a, T⟩
theorem xoE_of {T : List (Addr × Str)} (k : Str) (o : HO) (h : exNames.contains k = true) : xoE mg T k none o ↔ ∃ C a, mg k = some (.ref C) ∧ o = ExP (.ref C) a := ⟨fun z => z.2, fun z => ⟨h, z⟩⟩
theorem xoE_of1 {T : List (Addr × Str)} (k : Str) (dx : Option Addr) (o : HO) (h : exNames.contains k = true) : xoE mg T k dx o ↔ ∃ C a, mg k = some (.ref C) ∧ o = ExD (.ref C) dx a := ⟨fun z => z.2, fun z => ⟨h, z⟩⟩
theorem ecB_ok {D : Addr} (h : ecB K D = true) : ExcC K D := by
  unfold ecB at h
  simp only [Bool.and_eq_true, decide_eq_true_eq] at h
  obtain ⟨h1, h2, h3, h4, h5, h6, h7, h8⟩ := h
  exact ⟨h1, h2, h3, h4, h5, h6, h7, h8⟩
theorem exB1_ok {k : Str} {C : Addr} (X : K.In base) (G : base.Ns mainGlobals mg) (h : exB1 K k = true) (hm : mg k = some (.ref C)) : ecB K C = true ∧ PySem.W.kitOne K (.ref C) (.type "ValueError") = some true ∧ PySem.W.kitOne K (.type "NoneType") (.ref C) = some false ∧ PySem.W.findIn K (.ref C) (fieldOf k) = some none ∧ exNames.all (exB2 K k C) = true := by
  unfold exB1 at h
  split at h
  · rename_i q
    rw [PySem.W.mg_none_of X G q] at hm
    cases hm
  · rename_i C' q
    rw [PySem.W.mg_of X G q] at hm
    have hm := Option.some.inj hm
    have hm := Value.ref.inj hm
    subst hm
    simp only [Bool.and_eq_true, decide_eq_true_eq] at h
    exact h
  · cases h
theorem exB2_ok {k c : Str} {C D : Addr} (X : K.In base) (G : base.Ns mainGlobals mg) (h : exB2 K k C c = true) (hm : mg c = some (.ref D)) : PySem.W.kitOne K (.ref C) (.ref D) = some (exSub k c) ∧ PySem.W.exmOne K (.ref C) (.ref D) = some (exSub k c) := by
  unfold exB2 at h
  split at h
  · rename_i q
    rw [PySem.W.mg_none_of X G q] at hm
    cases hm
  · rename_i C' q
    rw [PySem.W.mg_of X G q] at hm
    have hm := Option.some.inj hm
    have hm := Value.ref.inj hm
    subst hm
    simp only [Bool.and_eq_true, decide_eq_true_eq] at h
    exact h
  · cases h
theorem exB_ok (X : K.In base) (G : base.Ns mainGlobals mg) (h : exB K = true) : ExF K mg := by
  have h1 : ∀ k, exNames.contains k = true → exB1 K k = true := fun k hk => List.all_eq_true.mp h k (by simpa using hk)
  refine ⟨fun k C hk hm => ?_, fun k C hk hm => (exB1_ok X G (h1 k hk) hm).2.2.2.1, fun k c C D hk hc hm hm2 => ?_⟩
  · obtain ⟨a, b, c, _⟩ := exB1_ok X G (h1 k hk) hm
    exact ⟨ecB_ok a, b, c⟩
  · obtain ⟨_, _, _, _, q⟩ := exB1_ok X G (h1 k hk) hm
    exact exB2_ok X G (List.all_eq_true.mp q c (by simpa using hc)) hm2
/-- the names' state, at a law's head -/
structure Wd (fa : List He.Fa) (fn : List He.DefD) (K : PySem.W.Frag) (mg : Str → Option Value) (base : Heap) : Prop where
  X : K.In base
  G : base.Ns mainGlobals mg
  c : He.SaysD fa fn K
  e : exB K = true
theorem Wd.exc {fa : List He.Fa} {fn : List He.DefD} (d : Wd fa fn K mg base) {x : Str} (i j : Nat) (h : fa[i]? = some (.exc x) := by rfl) (h2 : fa[j]? = some (.glo x) := by rfl) :
    ∃ C, mg x = some (.ref C) ∧ PySem.W.excIn K C [.type "ValueError", .type "Exception", .type "BaseException", .type "object"] "ValueError.__new__" = true ∧ PySem.W.keepIn K (.ref C) = true ∧ PySem.W.subIn K (.ref C) (.type "BaseException") = some true ∧ PySem.W.typeIn K (.ref C) = some (.type "type") := by
  obtain ⟨h3, h4, h5, h6⟩ := He.exc_ok (d.c.fact i h)
  exact ⟨_, He.glo_ok d.X d.G (d.c.fact j h2), h3, h4, h5, h6⟩
theorem Wd.int {fa : List He.Fa} {fn : List He.DefD} (d : Wd fa fn K mg base) {x : Str} {n : Int} (i : Nat) (h : fa[i]? = some (.int x n) := by rfl) : ∃ t, mg x = some (.int n t) := He.int_ok d.X d.G (d.c.fact i h)
/-- the first facts are those of the built-in names -/
theorem Wd.blt {rest : List He.Fa} {fn : List He.DefD} (d : Wd (bNames.map He.Fa.free ++ rest) fn K mg base) : ∀ x ∈ bNames, mg x = none := fun x hx => by
  obtain ⟨i, hi, e⟩ := List.getElem_of_mem hx
  refine He.free_ok d.X d.G (d.c.fact i (f := .free x) ?_)
  rw [List.getElem?_append_left (by rw [List.length_map]; exact hi), List.getElem?_map, List.getElem?_eq_getElem hi, e]
  rfl
/-- a def of the table -/
theorem Wd.ok {rest : List He.Fa} {fn : List He.DefD} (d : Wd (bNames.map He.Fa.free ++ rest) fn K mg base) (i j : Nat) {x : Str} {params : Arguments} {body : List Stmt} {sc : Scope} {ps : List Str} {k : Nat} {own : Bool} {b : Sxs} {cf : Cf} {G : List D} {Γ : List Fn}
    (hd : fn[i]? = some ⟨(x, none), x, x, params, body, sc, [], []⟩) (hx : rest[j]? = some (.glo x))
    (hb : ∀ (kV doc pm : Value) (an : Option Addr) (cdv ct : Value) (us : List Value), us.length = ps.length → bindArgs (PySem.W.fnOf x x params body sc .none kV doc pm an cdv ct) ⟨us, []⟩ = pure (ps.zip us))
    (S : FnScope cf.N ps sc) (hp : ps.length ≤ cf.N.length) (hc : ckSs cf sc b body = true) (g : GlbAll mg cf.gx G) (fs : FunAll P w K mg base (xoE mg T) k cf.fx cf.kx Γ) (ex : ExcAll K mg cf.ex) (cx : CxAll mg cf.cx) (lm : cf.lm = false := by rfl) (e1 : cf.e1 = [] := by rfl) : Ok P w K mg base (xoE mg T) (k + 1) x ⟨x, own, ps.length, evF G Γ own cf.N.length b⟩ := by
  obtain ⟨fd, F⟩ := d.c.def_ i hd
  have F : FunD K x x params body sc [] [] (He.fAd K (x, none)) fd := F
  have hm : mg x = some (.ref (He.ga K x)) := by
    refine He.glo_ok d.X d.G (d.c.fact (bNames.length + j) (f := .glo x) ?_)
    rw [List.getElem?_append_right (by rw [List.length_map]; omega), List.length_map, Nat.add_sub_cancel_left]
    exact hx
  exact ⟨_, fd, ps, [], [], _, def_ok F S hp hc ⟨g.at, fun i y hy => fs.at i y hy, d.blt, exB_ok d.X d.G d.e, xoE_of, cx.at, ex.at, e1_none e1, xoE_of1⟩ (fun h => by rw [lm] at h; cases h), hm, F.kp, F.bindsN hb, .nil, fun vs H Q E q => by rw [List.append_nil]; exact q⟩
/-- .. a def that raises or catches exceptions with a field -/
theorem Wd.okE {rest : List He.Fa} {fn : List He.DefD} (d : Wd (bNames.map He.Fa.free ++ rest) fn K mg base) (i j : Nat) {x : Str} {params : Arguments} {body : List Stmt} {sc : Scope} {ps : List Str} {k : Nat} {own : Bool} {b : Sxs} {cf : Cf} {G : List D} {Γ : List Fn}
    (hd : fn[i]? = some ⟨(x, none), x, x, params, body, sc, [], []⟩) (hx : rest[j]? = some (.glo x))
    (hb : ∀ (kV doc pm : Value) (an : Option Addr) (cdv ct : Value) (us : List Value), us.length = ps.length → bindArgs (PySem.W.fnOf x x params body sc .none kV doc pm an cdv ct) ⟨us, []⟩ = pure (ps.zip us))
    (S : FnScope cf.N ps sc) (hp : ps.length ≤ cf.N.length) (hc : ckSs cf sc b body = true) (g : GlbAll mg cf.gx G) (fs : FunAll P w K mg base (xoE mg T) k cf.fx cf.kx Γ) (ex : ExcAll K mg cf.ex) (cx : CxAll mg cf.cx) (e1 : ∀ x ∈ cf.e1, ∃ n, n + 1 ≤ k ∧ E1 P w K mg base n x) (lm : cf.lm = false := by rfl) : Ok P w K mg base (xoE mg T) (k + 1) x ⟨x, own, ps.length, evF G Γ own cf.N.length b⟩ := by
  obtain ⟨fd, F⟩ := d.c.def_ i hd
  have F : FunD K x x params body sc [] [] (He.fAd K (x, none)) fd := F
  have hm : mg x = some (.ref (He.ga K x)) := by
    refine He.glo_ok d.X d.G (d.c.fact (bNames.length + j) (f := .glo x) ?_)
    rw [List.getElem?_append_right (by rw [List.length_map]; omega), List.length_map, Nat.add_sub_cancel_left]
    exact hx
  exact ⟨_, fd, ps, [], [], _, def_ok F S hp hc ⟨g.at, fun i y hy => fs.at i y hy, d.blt, exB_ok d.X d.G d.e, xoE_of, cx.at, ex.at, e1, xoE_of1⟩ (fun h => by rw [lm] at h; cases h), hm, F.kp, F.bindsN hb, .nil, fun vs H Q E q => by rw [List.append_nil]; exact q⟩
/-- .. a def that makes lambdas -/
theorem Wd.okL {rest : List He.Fa} {fn : List He.DefD} (d : Wd (bNames.map He.Fa.free ++ rest) fn K mg base) (i j : Nat) {x : Str} {params : Arguments} {body : List Stmt} {sc : Scope} {ps : List Str} {k : Nat} {own : Bool} {b : Sxs} {cf : Cf} {G : List D} {Γ : List Fn}
    (hd : fn[i]? = some ⟨(x, none), x, x, params, body, sc, [], []⟩) (hx : rest[j]? = some (.glo x))
    (hb : ∀ (kV doc pm : Value) (an : Option Addr) (cdv ct : Value) (us : List Value), us.length = ps.length → bindArgs (PySem.W.fnOf x x params body sc .none kV doc pm an cdv ct) ⟨us, []⟩ = pure (ps.zip us))
    (S : FnScope cf.N ps sc) (hp : ps.length ≤ cf.N.length) (hc : ckSs cf sc b body = true) (g : GlbAll mg cf.gx G) (fs : FunAll P w K mg base (xoE mg T) k cf.fx cf.kx Γ) (ex : ExcAll K mg cf.ex) (cx : CxAll mg cf.cx)
    (lam : ∀ fd, FunD K x x params body sc [] [] (He.fAd K (x, none)) fd → LamFd base mg T x fd) (e1 : cf.e1 = [] := by rfl) : Ok P w K mg base (xoE mg T) (k + 1) x ⟨x, own, ps.length, evF G Γ own cf.N.length b⟩ := by
  obtain ⟨fd, F⟩ := d.c.def_ i hd
  have F : FunD K x x params body sc [] [] (He.fAd K (x, none)) fd := F
  have hm : mg x = some (.ref (He.ga K x)) := by
    refine He.glo_ok d.X d.G (d.c.fact (bNames.length + j) (f := .glo x) ?_)
    rw [List.getElem?_append_right (by rw [List.length_map]; omega), List.length_map, Nat.add_sub_cancel_left]
    exact hx
  exact ⟨_, fd, ps, [], [], _, def_ok F S hp hc ⟨g.at, fun i y hy => fs.at i y hy, d.blt, exB_ok d.X d.G d.e, xoE_of, cx.at, ex.at, e1_none e1, xoE_of1⟩ (fun _ => lam fd F), hm, F.kp, F.bindsN hb, .nil, fun vs H Q E q => by rw [List.append_nil]; exact q⟩
/-- a class with a making of its own, by the look at the names -/
theorem Wd.e1 {fa : List He.Fa} {fn : List He.DefD} (d : Wd fa fn K mg base) (i : Nat) {x f qual : Str} {params : Arguments} {body : List Stmt} {sc : Scope} (he : e1B K x "FolkError" = true)
    (hd : fn[i]? = some ⟨(x, some "__init__"), "__init__", qual, params, body, sc, [], []⟩) (hf : f = fieldOf x)
    (hb : ∀ (kV doc pm : Value) (an : Option Addr) (cdv ct : Value) (us : List Value), us.length = 2 → bindArgs (PySem.W.fnOf "__init__" qual params body sc .none kV doc pm an cdv ct) ⟨us, []⟩ = pure ((["self", f] : List Str).zip us))
    (hk : ∀ (kV doc pm : Value) (an : Option Addr) (cdv ct : Value) (a u : Value), bindArgs (PySem.W.fnOf "__init__" qual params body sc .none kV doc pm an cdv ct) ⟨[a], [(f, u)]⟩ = pure ((["self", f] : List Str).zip [a, u]))
    (S : FnScope ["self", f] ["self", f] sc) (h1 : initB f body = true) (h2 : initScB f sc = true) : E1 P w K mg base 1 x := by
  obtain ⟨fd, F⟩ := d.c.def_ i hd
  have F : FunD K "__init__" qual params body sc [] [] (He.fAd K (x, some "__init__")) fd := F
  obtain ⟨C, D, m1, m2, T, Y⟩ := e1B_ok d.X d.G he
  refine ⟨C, _, fd, _, m1, T, init_ok Y T m2 F S hf h1 h2, F.bindsN hb, rfl, ?_⟩
  obtain ⟨oc, od, dV, kV, doc, pm, an, cdv, ct, osl, rfl, lk, hcd, hD, hK⟩ := F.ex
  rcases hD with ⟨_, rfl⟩ | ⟨e, _⟩
  · intro s a u
    rw [← hf]
    exact .of_eq (hk kV doc pm an cdv ct a u)
  · exact absurd rfl e
/-- .. its last argument handed in by its name -/
theorem Wd.okN {rest : List He.Fa} {fn : List He.DefD} (d : Wd (bNames.map He.Fa.free ++ rest) fn K mg base) (i j : Nat) {x : Str} {params : Arguments} {body : List Stmt} {sc : Scope} {ps : List Str} {k : Nat} {b : Sxs} {cf : Cf} {G : List D} {Γ : List Fn} {kwd : List (Str × He.Dv)} (nm : Str) (n : Nat)
    (hd : fn[i]? = some ⟨(x, none), x, x, params, body, sc, [], kwd⟩) (hx : rest[j]? = some (.glo x)) (hn : n + 1 = ps.length)
    (hb : ∀ (kV doc pm : Value) (an : Option Addr) (cdv ct : Value) (us : List Value) (u : Value), us.length = n → bindArgs (PySem.W.fnOf x x params body sc .none kV doc pm an cdv ct) ⟨us, [(nm, u)]⟩ = pure (ps.zip (us ++ [u])))
    (S : FnScope cf.N ps sc) (hp : ps.length ≤ cf.N.length) (hc : ckSs cf sc b body = true) (g : GlbAll mg cf.gx G) (fs : FunAll P w K mg base (xoE mg T) k cf.fx cf.kx Γ) (ex : ExcAll K mg cf.ex) (cx : CxAll mg cf.cx) (lm : cf.lm = false := by rfl) (e1 : cf.e1 = [] := by rfl) :
    OkN P w K mg base (xoE mg T) (k + 1) nm x ⟨x, false, ps.length, evF G Γ false cf.N.length b⟩ := by
  obtain ⟨fd, F⟩ := d.c.def_ i hd
  have F : FunD K x x params body sc [] (kwd.map fun q => (q.1, q.2.v K)) (He.fAd K (x, none)) fd := F
  have hm : mg x = some (.ref (He.ga K x)) := by
    refine He.glo_ok d.X d.G (d.c.fact (bNames.length + j) (f := .glo x) ?_)
    rw [List.getElem?_append_right (by rw [List.length_map]; omega), List.length_map, Nat.add_sub_cancel_left]
    exact hx
  have hbi : KBn K fd ps n [nm] (fun us ws => us ++ ws) (fun vs zs => vs ++ zs) := by
    obtain ⟨oc, od, dV, kV, doc, pm, an, cdv, ct, osl, rfl, lk, hcd, hD, hK⟩ := F.ex
    rcases hD with ⟨_, rfl⟩ | ⟨e, _⟩
    · refine ⟨fun s us ws X l1 l2 => ?_, fun r1 r2 => r1.append r2⟩
      match ws, l2 with
      | [u], _ => exact .of_eq (hb kV doc pm an cdv ct us u l1)
    · exact absurd rfl e
  exact ⟨_, fd, ps, n, _, _, def_ok F S hp hc ⟨g.at, fun i y hy => fs.at i y hy, d.blt, exB_ok d.X d.G d.e, xoE_of, cx.at, ex.at, e1_none e1, xoE_of1⟩ (fun h => by rw [lm] at h; cases h), hm, F.kp, hbi, hn, fun vs H Q E q => q⟩
/-- .. with defaults of keywords alone -/
theorem Wd.okK {rest : List He.Fa} {fn : List He.DefD} (d : Wd (bNames.map He.Fa.free ++ rest) fn K mg base) (i j : Nat) {x : Str} {params : Arguments} {body : List Stmt} {sc : Scope} {ps : List Str} {k : Nat} {b : Sxs} {cf : Cf} {G : List D} {Γ : List Fn} {kwd : List (Str × He.Dv)} {df : List D}
    (hd : fn[i]? = some ⟨(x, none), x, x, params, body, sc, [], kwd⟩) (hx : rest[j]? = some (.glo x)) (hk : kwd ≠ []) (n : Nat) (hn : n + kwd.length = ps.length) (hl : df.length ≤ ps.length) (hdf : ∀ F, DenAll K (xoE mg T) F (kwd.map fun q => q.2.v K) df)
    (hb : ∀ (D : Addr) (doc pm : Value) (an : Option Addr) (cdv ct : Value) (us ks : List Value), us.length = n → ks.length = kwd.length → KwChain D ((kwd.map (·.1)).zip ks) (bindArgs (PySem.W.fnOf x x params body sc .none (.ref D) doc pm an cdv ct) ⟨us, []⟩) (ps.zip (us ++ ks)))
    (S : FnScope cf.N ps sc) (hp : ps.length ≤ cf.N.length) (hc : ckSs cf sc b body = true) (g : GlbAll mg cf.gx G) (fs : FunAll P w K mg base (xoE mg T) k cf.fx cf.kx Γ) (ex : ExcAll K mg cf.ex) (cx : CxAll mg cf.cx) (lm : cf.lm = false := by rfl) (e1 : cf.e1 = [] := by rfl) :
    Ok P w K mg base (xoE mg T) (k + 1) x (capFn ⟨x, false, ps.length, evF G Γ false cf.N.length b⟩ df) := by
  obtain ⟨fd, F⟩ := d.c.def_ i hd
  have F : FunD K x x params body sc [] (kwd.map fun q => (q.1, q.2.v K)) (He.fAd K (x, none)) fd := F
  have hm : mg x = some (.ref (He.ga K x)) := by
    refine He.glo_ok d.X d.G (d.c.fact (bNames.length + j) (f := .glo x) ?_)
    rw [List.getElem?_append_right (by rw [List.length_map]; omega), List.length_map, Nat.add_sub_cancel_left]
    exact hx
  obtain ⟨ds, hv, hbi⟩ := F.binds0 (ps := ps) n (by
    intro z
    cases kwd with
    | nil => exact hk rfl
    | cons _ _ => cases z) (by rw [List.length_map]; exact hn) fun D doc pm an cdv ct us ks hu hks => by
      have := hb D doc pm an cdv ct us ks hu (by rw [List.length_map] at hks; exact hks)
      rw [List.map_map]
      exact this
  rw [List.map_map] at hv
  exact ⟨_, fd, ps, _, ds, _, def_ok F S hp hc ⟨g.at, fun i y hy => fs.at i y hy, d.blt, exB_ok d.X d.G d.e, xoE_of, cx.at, ex.at, e1_none e1, xoE_of1⟩ (fun h => by rw [lm] at h; cases h), hm, F.kp, hbi, hv, cap_sp rfl hl hdf⟩
end
/-- where nothing is let out -/
theorem FnQuiet {P : Program} {w : World} {K : PySem.W.Frag} {mg : Str → Option Value} {base : Heap} {k : Nat} {f : Addr} {fd : FuncData} {ps : List Str} {sp : Sp} (F : FnOk P w K mg base (L2.CX P w) k f fd ps sp) :
    FnOk P w K mg base CX0 k f fd ps (fun vs H Q _ => sp vs H Q fun _ _ _ => False) :=
  ⟨fun vs H Q E h => F.len vs H Q _ h, fun A outer s H args us vs Q E hr he hb hv hs => codeAny_mono (F.run A outer s H args us vs Q (fun _ _ _ => False) hr he hb hv hs) fun r s' hq => by
    cases r with
    | error e =>
      obtain ⟨_, _, _, _, _, _, _, _, _, _, _, _, z⟩ := hq
      exact z.elim
    | ok fl =>
      cases fl with
      | ret u => exact hq
      | _ => exact False.elim hq⟩
/-- the heap but for the tables -/
def noTbl (H : Hp) : Hp := fun a => match H a with
  | some (.tbl _) => none
  | o => o
theorem noTbl_at {H : Hp} {a : Addr} {u : HO} (h : H a = some u) (n : ∀ ps, u ≠ .tbl ps) : noTbl H a = some u := by
  unfold noTbl
  rw [h]
  cases u <;> first | rfl | exact absurd rfl (n _)
theorem noTbl_sub (H : Hp) : Same (noTbl H) H := fun a u h => by
  unfold noTbl at h
  split at h
  · cases h
  · exact h
theorem noTbl_nt (H : Hp) : ∀ a ps, noTbl H a ≠ some (.tbl ps) := fun a ps h => by
  unfold noTbl at h
  cases q : H a with
  | none => rw [q] at h; cases h
  | some o => rw [q] at h; cases o <;> cases h
theorem noTbl_seq {K : PySem.W.Frag} {H : Hp} {a : Addr} {xs : List V} (h : SqL K H a xs) : SqL K (noTbl H) a xs := by
  rcases h with h | h
  · left
    rcases h with h | ⟨o, h⟩
    · exact .inl (noTbl_at h (fun ps z => nomatch z))
    · exact .inr ⟨o, noTbl_at h (fun ps z => nomatch z)⟩
  · exact .inr h
theorem law_sp {K : PySem.W.Frag} {mg : Str → Option Value} {xo : XO} {f : Fn} (hn : f.np = 1) (ho : f.own = false) {n : Nat} (h : ∀ ns : List Int, ns.length ≤ n → ∃ o, f.run [] [.dict [(.none, .list (ns.map PyData.int))]] = .ret (.d (.bool true)) o)
    (H : Hp) (tb : LamX.Tabs xo.T H) (a : Addr) (ns : List Int) (hl : ns.length ≤ n) (hS : SqL K H a (ns.map V.int)) : spFn K xo mg f [.ref a] H (fun v _ => v = .bl true) fun _ _ _ => False := by
  obtain ⟨o, h⟩ := h ns hl
  refine ⟨hn.symm, tb, noTbl H, ⟨noTbl_sub H, noTbl_nt H⟩, .inl ⟨ho, [.dict [(.none, .list (ns.map PyData.int))]], .cons (.scr (noTbl_seq hS) (den_ints ns)) .nil, ?_⟩⟩
  rw [h]
  intro v H' F' _ dv
  cases dv
  rfl
end DL


set_option Elab.async false
set_option linter.all false
set_option maxRecDepth 100000
set_option maxHeartbeats 2000000
/-! DL23: what terms come to, by rewriting. -/
namespace DL
open PySem

def wR {α : Type} (r : R α) (Q : α → Env → Prop) (X : Str → List D → Env → Prop) : Prop := match r with
  | .ok a e => Q a e
  | .exn c ps e => X c ps e
  | .bad => False
def wO {α : Type} (o : Option α) (Q : α → Prop) : Prop := match o with
  | some a => Q a
  | none => False
def wS (r : RS) (Q : RS → Prop) : Prop := match r with
  | .bad => False
  | .nx e => Q (.nx e)
  | .bk e => Q (.bk e)
  | .ct e => Q (.ct e)
  | .rt v e => Q (.rt v e)
  | .exn c ps e => Q (.exn c ps e)
def wF (r : FR) (Q : DV → List D → Prop) (X : Str → List D → List D → Prop) : Prop := match r with
  | .ret v o => Q v o
  | .exn c ps o => X c ps o
  | .bad => False
def nxt (f : Env → Prop) (Q : RS → Prop) : RS → Prop
  | .nx e => f e
  | r => Q r
def sEx (Q : RS → Prop) (c : Str) (ps : List D) (e : Env) : Prop := Q (.exn c ps e)
/-- data in a slot; a list of one's own in a slot -/
def sV (e : Env) (i : Nat) (Q : D → Prop) : Prop := match e[i]? with
  | some (.val x) => Q x
  | _ => False
def sO (e : Env) (i : Nat) (Q : Bool → List D → Prop) : Prop := match e[i]? with
  | some (.own p xs) => Q p xs
  | _ => False
def isD (x : DV) (Q : List D → Prop) : Prop := match x with
  | .fr xs => Q xs
  | .d _ => False
def asInt (d : D) (Q : Int → Prop) : Prop := match d with
  | .int i => Q i
  | _ => False
def finP (own : Bool) (e : Env) (f : List D → Prop) : Prop := if own = true then sO e 0 fun p o => p = true ∧ f o else f []
def endP (own : Bool) (Q : DV → List D → Prop) (X : Str → List D → List D → Prop) : RS → Prop
  | .nx e => finP own e (Q (.d .none))
  | .rt v e => finP own e (Q v)
  | .exn c ps e => finP own e (X c ps)
  | _ => False

section
variable {α β : Type}
theorem wR_bind {r : R α} {f : α → Env → R β} {Q : β → Env → Prop} {X : Str → List D → Env → Prop} : wR (r.bind f) Q X = wR r (fun a e => wR (f a e) Q X) X := by
  cases r <;> rfl
theorem wS_thn {r : R α} {f : α → Env → RS} {Q : RS → Prop} : wS (r.thn f) Q = wR r (fun a e => wS (f a e) Q) (sEx Q) := by
  cases r <;> rfl
theorem wR_toR {o : Option α} {e : Env} {Q : α → Env → Prop} {X : Str → List D → Env → Prop} : wR (toR o e) Q X = wO o fun a => Q a e := by
  cases o <;> rfl
theorem wR_ite {c : Prop} [Decidable c] {r : R α} {Q : α → Env → Prop} {X : Str → List D → Env → Prop} : wR (if c then r else .bad) Q X = (c ∧ wR r Q X) := by
  by_cases h : c
  · rw [if_pos h]; simp [h]
  · rw [if_neg h]; simp [h, wR]
theorem wO_ite {c : Prop} [Decidable c] {a : α} {Q : α → Prop} : wO (if c then some a else none) Q = (c ∧ Q a) := by
  by_cases h : c
  · rw [if_pos h]; simp [h, wO]
  · rw [if_neg h]; simp [h, wO]
theorem wO_map {o : Option α} {f : α → β} {Q : β → Prop} : wO (o.map f) Q = wO o fun a => Q (f a) := by
  cases o <;> rfl
theorem wS_ite {c : Prop} [Decidable c] {r s : RS} {Q : RS → Prop} : wS (if c then r else s) Q = (if c then wS r Q else wS s Q) := by
  by_cases h : c
  · rw [if_pos h, if_pos h]
  · rw [if_neg h, if_neg h]
/-- weaker ends -/
theorem wR.imp {r : R α} {Q Q' : α → Env → Prop} {X X' : Str → List D → Env → Prop} (h : wR r Q X) (q : ∀ a e, Q a e → Q' a e) (x : ∀ c ps e, X c ps e → X' c ps e) : wR r Q' X' := by
  cases r with
  | ok a e => exact q _ _ h
  | exn c ps e => exact x _ _ _ h
  | bad => exact h
theorem wF.imp {r : FR} {Q Q' : DV → List D → Prop} {X X' : Str → List D → List D → Prop} (h : wF r Q X) (q : ∀ a e, Q a e → Q' a e) (x : ∀ c ps e, X c ps e → X' c ps e) : wF r Q' X' := by
  cases r with
  | ret a e => exact q _ _ h
  | exn c ps e => exact x _ _ _ h
  | bad => exact h
theorem wS.imp {r : RS} {Q Q' : RS → Prop} (h : wS r Q) (q : ∀ r, Q r → Q' r) : wS r Q' := by
  cases r with
  | bad => exact h
  | nx e => exact q _ h
  | bk e => exact q _ h
  | ct e => exact q _ h
  | rt v e => exact q _ h
  | exn c ps e => exact q _ h
theorem wF_true {r : FR} (h : wF r (fun v _ => v = .d (.bool true)) fun _ _ _ => False) : ∃ o, r = .ret (.d (.bool true)) o := by
  cases r with
  | ret v o =>
    have h : v = .d (.bool true) := h
    subst h
    exact ⟨o, rfl⟩
  | exn c ps o => exact h.elim
  | bad => exact h.elim
end

/-- a call's callee -/
def cF (Γ : List Fn) (k : Nat) (xs : List D) (Q : DV → Prop) (X : Str → List D → Prop) : Prop := match Γ[k]? with
  | some f => f.own = false ∧ f.np = xs.length ∧ wF (f.run [] xs) (fun v _ => Q v) fun c ps _ => X c ps
  | none => False
def cO (Γ : List Fn) (k : Nat) (o xs : List D) (Q : DV → List D → Prop) (X : Str → List D → List D → Prop) : Prop := match Γ[k]? with
  | some f => f.own = true ∧ f.np = xs.length + 1 ∧ wF (f.run o xs) Q X
  | none => False

section
variable (G : List D) (Γ : List Fn)
/-- the rules of terms -/
theorem rE : (∀ c e Q X, wR (evE G Γ (.lit c) e) Q X = Q (.d c) e) ∧
    (∀ i e Q X, wR (evE G Γ (.v i) e) Q X = sV e i fun x => Q (.d x) e) ∧
    (∀ i e Q X, wR (evE G Γ (.frz i) e) Q X = sO e i fun p xs => p = false ∧ Q (.d (.list xs)) (e.set i (.val (.list xs)))) ∧
    (∀ i e Q X, wR (evE G Γ (.tk i) e) Q X = sO e i fun p xs => p = false ∧ Q (.fr xs) (e.set i .un)) ∧
    (∀ i b e Q X, wR (evE G Γ (.oix i b) e) Q X = sO e i fun _ _ => wR (evE G Γ b e) (fun k e1 => sO e1 i fun _ xs => wO (ix (.list xs) k.fz) fun d => Q (.d d) e1) X) ∧
    (∀ i b e Q X, wR (evE G Γ (.popi i b) e) Q X = sO e i fun _ _ => wR (evE G Γ b e) (fun k e1 => sO e1 i fun p xs => wO (popD xs k.fz) fun d => Q (.d d.1) (e1.set i (.own p d.2))) X) ∧
    (∀ e Q X, wR (evE G Γ .dic0 e) Q X = Q (.d (.dict [])) e) ∧
    (∀ a i e Q X, wR (evE G Γ (.oadd a i) e) Q X = wR (evE G Γ a e) (fun x e1 => sO e1 i fun _ ys => wO (bin .add x.fz (.list ys)) fun v => Q v e1) X) ∧
    (∀ i e Q X, wR (evE G Γ (.olen i) e) Q X = sO e i fun _ xs => Q (.d (.int xs.length)) e) ∧
    (∀ k e Q X, wR (evE G Γ (.gl k) e) Q X = wO G[k]? fun d => Q (.d d) e) ∧
    (∀ o a b e Q X, wR (evE G Γ (.bin o a b) e) Q X = wR (evE G Γ a e) (fun x e1 => wR (evE G Γ b e1) (fun y e2 => wO (bin o x.fz y.fz) fun v => Q v e2) X) X) ∧
    (∀ a e Q X, wR (evE G Γ (.neg a) e) Q X = wR (evE G Γ a e) (fun x e1 => asInt x.fz fun i => Q (.d (.int (-i))) e1) X) ∧
    (∀ a e Q X, wR (evE G Γ (.no a) e) Q X = wR (evE G Γ a e) (fun x e1 => wO (tru x.fz) fun b => Q (.d (.bool (!b))) e1) X) ∧
    (∀ o a b e Q X, wR (evE G Γ (.cmp o a b) e) Q X = wR (evE G Γ a e) (fun x e1 => wR (evE G Γ b e1) (fun y e2 => wO (cmp o x.fz y.fz) fun k => Q (.d (.bool k)) e2) X) X) ∧
    (∀ o p a b c e Q X, wR (evE G Γ (.chn o p a b c) e) Q X = wR (evE G Γ a e) (fun x e1 => wR (evE G Γ b e1) (fun y e2 => wO (cmp o x.fz y.fz) fun k => if k = true then wR (evE G Γ c e2) (fun z e3 => wO (cmp p y.fz z.fz) fun k => Q (.d (.bool k)) e3) X else Q (.d (.bool false)) e2) X) X) ∧
    (∀ a b e Q X, wR (evE G Γ (.and a b) e) Q X = wR (evE G Γ a e) (fun x e1 => wO (tru x.fz) fun k => if k = true then wR (evE G Γ b e1) (fun y e2 => Q (.d y.fz) e2) X else Q (.d x.fz) e1) X) ∧
    (∀ a b e Q X, wR (evE G Γ (.or a b) e) Q X = wR (evE G Γ a e) (fun x e1 => wO (tru x.fz) fun k => if k = true then Q (.d x.fz) e1 else wR (evE G Γ b e1) (fun y e2 => Q (.d y.fz) e2) X) X) ∧
    (∀ c a b e Q X, wR (evE G Γ (.ife c a b) e) Q X = wR (evE G Γ c e) (fun x e1 => wO (tru x.fz) fun k => if k = true then wR (evE G Γ a e1) (fun y e2 => Q (.d y.fz) e2) X else wR (evE G Γ b e1) (fun y e2 => Q (.d y.fz) e2) X) X) ∧
    (∀ es e Q X, wR (evE G Γ (.tup es) e) Q X = wR (evEs G Γ es e) (fun xs e1 => xs.length ≤ lim ∧ Q (.d (.tuple xs)) e1) X) ∧
    (∀ es e Q X, wR (evE G Γ (.lst es) e) Q X = wR (evEs G Γ es e) (fun xs e1 => xs.length ≤ lim ∧ Q (.fr xs) e1) X) ∧
    (∀ a b e Q X, wR (evE G Γ (.ix a b) e) Q X = wR (evE G Γ a e) (fun x e1 => wR (evE G Γ b e1) (fun y e2 => wO (ix x.fz y.fz) fun d => Q (.d d) e2) X) X) ∧
    (∀ a lo hi e Q X, wR (evE G Γ (.sl a lo hi) e) Q X = wR (evE G Γ a e) (fun x e1 => wR (evOp G Γ lo e1) (fun i e2 => wR (evOp G Γ hi e2) (fun j e3 => wO (sl x.fz i j) fun v => Q v e3) X) X) X) ∧
    (∀ a e Q X, wR (evE G Γ (.rsl a) e) Q X = wR (evE G Γ a e) (fun x e1 => wO (revSl x.fz) fun v => Q v e1) X) ∧
    (∀ it e Q X, wR (evE G Γ (.lit_ it) e) Q X = wR (evIt G Γ it e) (fun xs e1 => xs.length ≤ lim ∧ Q (.fr xs) e1) X) ∧
    (∀ a c e Q X, wR (evE G Γ (.isx a c) e) Q X = wR (evE G Γ a e) (fun x e1 => wO (isX c x.fz) fun b => Q (.d (.bool b)) e1) X) ∧
    (∀ f es e Q X, wR (evE G Γ (.bi f es) e) Q X = wR (evEs G Γ es e) (fun xs e1 => wO (bi f xs) fun v => Q v e1) X) ∧
    (∀ k es e Q X, wR (evE G Γ (.call k es) e) Q X = wR (evEs G Γ es e) (fun xs e1 => cF Γ k xs (fun v => Q v e1) fun c ps => X c ps e1) X) ∧
    (∀ i k1 k2 es e Q X, wR (evE G Γ (.call2 i k1 k2 es) e) Q X = sV e i fun x => asInt x fun w => (w = 0 ∨ w = 1) ∧ wR (evEs G Γ es e) (fun xs e1 => cF Γ (if w = 0 then k1 else k2) xs (fun v => Q v e1) fun c ps => X c ps e1) X) ∧
    (∀ k es a e Q X, wR (evE G Γ (.callk k es a) e) Q X = wR (evEs G Γ es e) (fun xs e1 => wR (evE G Γ a e1) (fun y e2 => cF Γ k (xs ++ [y.fz]) (fun v => Q v e2) fun c ps => X c ps e2) X) X) ∧
    (∀ k i es e Q X, wR (evE G Γ (.callo k i es) e) Q X = sO e i fun _ _ => wR (evEs G Γ es e) (fun xs e1 => sO e1 i fun p o => cO Γ k o xs (fun v o' => Q v (e1.set i (.own p o'))) fun c ps o' => X c ps (e1.set i (.own p o'))) X) := by
  refine ⟨fun _ _ _ _ => rfl, fun i e Q X => ?_, fun i e Q X => ?_, fun i e Q X => ?_, fun i b e Q X => ?_, fun i b e Q X => ?_, fun _ _ _ => rfl, fun a i e Q X => ?_, fun i e Q X => ?_, fun k e Q X => ?_, fun o a b e Q X => ?_, fun a e Q X => ?_, fun a e Q X => ?_, fun o a b e Q X => ?_, fun o p a b c e Q X => ?_, fun a b e Q X => ?_, fun a b e Q X => ?_, fun c a b e Q X => ?_,
    fun es e Q X => ?_, fun es e Q X => ?_, fun a b e Q X => ?_, fun a lo hi e Q X => ?_, fun a e Q X => ?_, fun it e Q X => ?_, fun a c e Q X => ?_, fun f es e Q X => ?_, fun k es e Q X => ?_, fun i k1 k2 es e Q X => ?_, fun k es a e Q X => ?_, fun k i es e Q X => ?_⟩
  · show wR (match e[i]? with | some (.val x) => R.ok (DV.d x) e | _ => .bad) Q X = _
    unfold sV
    split <;> simp_all [wR]
  · show wR (match e[i]? with | some (.own false xs) => R.ok (DV.d (.list xs)) (e.set i (.val (.list xs))) | _ => .bad) Q X = _
    unfold sO
    cases e[i]? with
    | none => rfl
    | some s =>
      cases s with
      | un => rfl
      | val _ => rfl
      | own p xs => cases p <;> simp [wR]
  · show wR (match e[i]? with | some (.own false xs) => R.ok (DV.fr xs) (e.set i .un) | _ => .bad) Q X = _
    unfold sO
    cases e[i]? with
    | none => rfl
    | some s =>
      cases s with
      | un => rfl
      | val _ => rfl
      | own p xs => cases p <;> simp [wR]
  · show wR (match e[i]? with
      | some (.own _ _) => (evE G Γ b e).bind fun k e1 => match e1[i]? with
        | some (.own _ xs) => toR ((ix (.list xs) k.fz).map DV.d) e1
        | _ => .bad
      | _ => .bad) Q X = _
    unfold sO
    cases e[i]? with
    | none => rfl
    | some s =>
      cases s with
      | un => rfl
      | val _ => rfl
      | own p xs =>
        show wR ((evE G Γ b e).bind fun k e1 => match e1[i]? with
          | some (.own _ xs) => toR ((ix (.list xs) k.fz).map DV.d) e1
          | _ => .bad) Q X = wR (evE G Γ b e) (fun k e1 => match e1[i]? with
          | some (.own _ xs) => wO (ix (.list xs) k.fz) fun d => Q (.d d) e1
          | _ => False) X
        rw [wR_bind]
        congr 1
        funext k e1
        cases e1[i]? with
        | none => rfl
        | some s1 =>
          cases s1 with
          | un => rfl
          | val _ => rfl
          | own p1 xs1 =>
            show wR (toR ((ix (.list xs1) k.fz).map DV.d) e1) Q X = wO (ix (.list xs1) k.fz) fun d => Q (.d d) e1
            rw [wR_toR, wO_map]
  · show wR (match e[i]? with
      | some (.own _ _) => (evE G Γ b e).bind fun k e1 => match e1[i]? with
        | some (.own p xs) => match popD xs k.fz with
          | some (x, ys) => R.ok (DV.d x) (e1.set i (.own p ys))
          | none => .bad
        | _ => .bad
      | _ => .bad) Q X = _
    unfold sO
    cases e[i]? with
    | none => rfl
    | some s =>
      cases s with
      | un => rfl
      | val _ => rfl
      | own p xs =>
        show wR ((evE G Γ b e).bind fun k e1 => match e1[i]? with
          | some (.own p xs) => match popD xs k.fz with
            | some (x, ys) => R.ok (DV.d x) (e1.set i (.own p ys))
            | none => .bad
          | _ => .bad) Q X = wR (evE G Γ b e) (fun k e1 => match e1[i]? with
          | some (.own p xs) => wO (popD xs k.fz) fun d => Q (.d d.1) (e1.set i (.own p d.2))
          | _ => False) X
        rw [wR_bind]
        congr 1
        funext k e1
        cases e1[i]? with
        | none => rfl
        | some s1 =>
          cases s1 with
          | un => rfl
          | val _ => rfl
          | own p1 xs1 =>
            show wR (match popD xs1 k.fz with
              | some (x, ys) => R.ok (DV.d x) (e1.set i (.own p1 ys))
              | none => .bad) Q X = wO (popD xs1 k.fz) fun d => Q (.d d.1) (e1.set i (.own p1 d.2))
            cases popD xs1 k.fz with
            | none => rfl
            | some d => rfl
  · show wR ((evE G Γ a e).bind fun x e1 => match e1[i]? with
      | some (.own _ ys) => toR (bin .add x.fz (.list ys)) e1
      | _ => .bad) Q X = _
    rw [wR_bind]
    congr 1
    funext x e1
    unfold sO
    cases e1[i]? with
    | none => rfl
    | some s =>
      cases s with
      | un => rfl
      | val _ => rfl
      | own p ys => exact wR_toR
  · show wR (match e[i]? with | some (.own _ xs) => R.ok (DV.d (.int xs.length)) e | _ => .bad) Q X = _
    unfold sO
    cases e[i]? with
    | none => rfl
    | some s => cases s <;> rfl
  · show wR (match G[k]? with | some x => R.ok (DV.d x) e | none => .bad) Q X = _
    cases G[k]? <;> rfl
  · show wR ((evE G Γ a e).bind fun x e1 => (evE G Γ b e1).bind fun y e2 => toR (bin o x.fz y.fz) e2) Q X = _
    simp only [wR_bind, wR_toR]
  · show wR ((evE G Γ a e).bind fun x e1 => match x.fz with | .int i => R.ok (DV.d (.int (-i))) e1 | _ => .bad) Q X = _
    rw [wR_bind]
    congr 1
    funext x e1
    cases x.fz <;> rfl
  · show wR ((evE G Γ a e).bind fun x e1 => match tru x.fz with | some b => R.ok (DV.d (.bool (!b))) e1 | none => .bad) Q X = _
    rw [wR_bind]
    congr 1
    funext x e1
    cases tru x.fz <;> rfl
  · show wR ((evE G Γ a e).bind fun x e1 => (evE G Γ b e1).bind fun y e2 => toR ((cmp o x.fz y.fz).map fun b => DV.d (.bool b)) e2) Q X = _
    simp only [wR_bind, wR_toR, wO_map]
  · show wR ((evE G Γ a e).bind fun x e1 => (evE G Γ b e1).bind fun y e2 => match cmp o x.fz y.fz with
      | some true => (evE G Γ c e2).bind fun z e3 => toR ((cmp p y.fz z.fz).map fun b => DV.d (.bool b)) e3
      | some false => R.ok (DV.d (.bool false)) e2
      | none => .bad) Q X = _
    simp only [wR_bind]
    congr 1
    funext x e1
    congr 1
    funext y e2
    cases cmp o x.fz y.fz with
    | none => rfl
    | some k =>
      cases k with
      | false => simp [wO, wR]
      | true =>
        show wR ((evE G Γ c e2).bind fun z e3 => toR ((cmp p y.fz z.fz).map fun b => DV.d (.bool b)) e3) Q X = wR (evE G Γ c e2) (fun z e3 => wO (cmp p y.fz z.fz) fun k => Q (.d (.bool k)) e3) X
        simp only [wR_bind, wR_toR, wO_map]
  · show wR ((evE G Γ a e).bind fun x e1 => match tru x.fz with
      | some true => (evE G Γ b e1).bind fun y e2 => R.ok (DV.d y.fz) e2
      | some false => R.ok (DV.d x.fz) e1
      | none => .bad) Q X = _
    rw [wR_bind]
    congr 1
    funext x e1
    cases tru x.fz with
    | none => rfl
    | some k =>
      cases k with
      | false => simp [wO, wR]
      | true =>
        show wR ((evE G Γ b e1).bind fun y e2 => R.ok (DV.d y.fz) e2) Q X = _
        simp only [wR_bind, wO, if_true]
        rfl
  · show wR ((evE G Γ a e).bind fun x e1 => match tru x.fz with
      | some false => (evE G Γ b e1).bind fun y e2 => R.ok (DV.d y.fz) e2
      | some true => R.ok (DV.d x.fz) e1
      | none => .bad) Q X = _
    rw [wR_bind]
    congr 1
    funext x e1
    cases tru x.fz with
    | none => rfl
    | some k =>
      cases k with
      | true => simp [wO, wR]
      | false =>
        show wR ((evE G Γ b e1).bind fun y e2 => R.ok (DV.d y.fz) e2) Q X = _
        simp only [wR_bind, wO, Bool.false_eq_true, if_false]
        rfl
  · show wR ((evE G Γ c e).bind fun x e1 => match tru x.fz with
      | some true => (evE G Γ a e1).bind fun y e2 => R.ok (DV.d y.fz) e2
      | some false => (evE G Γ b e1).bind fun y e2 => R.ok (DV.d y.fz) e2
      | none => .bad) Q X = _
    rw [wR_bind]
    congr 1
    funext x e1
    cases tru x.fz with
    | none => rfl
    | some k =>
      cases k with
      | true =>
        show wR ((evE G Γ a e1).bind fun y e2 => R.ok (DV.d y.fz) e2) Q X = _
        simp only [wR_bind, wO, if_true]
        rfl
      | false =>
        show wR ((evE G Γ b e1).bind fun y e2 => R.ok (DV.d y.fz) e2) Q X = _
        simp only [wR_bind, wO, Bool.false_eq_true, if_false]
        rfl
  · show wR ((evEs G Γ es e).bind fun xs e1 => if xs.length ≤ lim then R.ok (DV.d (.tuple xs)) e1 else .bad) Q X = _
    simp only [wR_bind, wR_ite]
    rfl
  · show wR ((evEs G Γ es e).bind fun xs e1 => if xs.length ≤ lim then R.ok (DV.fr xs) e1 else .bad) Q X = _
    simp only [wR_bind, wR_ite]
    rfl
  · show wR ((evE G Γ a e).bind fun x e1 => (evE G Γ b e1).bind fun y e2 => toR ((ix x.fz y.fz).map DV.d) e2) Q X = _
    simp only [wR_bind, wR_toR, wO_map]
  · show wR ((evE G Γ a e).bind fun x e1 => (evOp G Γ lo e1).bind fun i e2 => (evOp G Γ hi e2).bind fun j e3 => toR (sl x.fz i j) e3) Q X = _
    simp only [wR_bind, wR_toR]
  · show wR ((evE G Γ a e).bind fun x e1 => toR (revSl x.fz) e1) Q X = _
    simp only [wR_bind, wR_toR]
  · show wR ((evIt G Γ it e).bind fun xs e1 => if xs.length ≤ lim then R.ok (DV.fr xs) e1 else .bad) Q X = _
    rw [wR_bind]
    congr 1
    funext xs e1
    by_cases h : xs.length ≤ lim
    · rw [if_pos h]
      show Q _ _ = _
      simp [h]
    · rw [if_neg h]
      show False = _
      simp [h]
  · show wR ((evE G Γ a e).bind fun x e1 => toR ((isX c x.fz).map fun b => DV.d (.bool b)) e1) Q X = _
    simp only [wR_bind, wR_toR, wO_map]
  · show wR ((evEs G Γ es e).bind fun xs e1 => toR (bi f xs) e1) Q X = _
    simp only [wR_bind, wR_toR]
  · show wR ((evEs G Γ es e).bind fun xs e1 => match Γ[k]? with
      | some f => if f.own = false ∧ f.np = xs.length then (match f.run [] xs with
        | .ret v _ => R.ok v e1
        | .exn c ps _ => R.exn c ps e1
        | .bad => .bad) else .bad
      | none => .bad) Q X = _
    rw [wR_bind]
    congr 1
    funext xs e1
    unfold cF
    cases Γ[k]? with
    | none => rfl
    | some f =>
      show wR (if f.own = false ∧ f.np = xs.length then (match f.run [] xs with
        | .ret v _ => R.ok v e1
        | .exn c ps _ => R.exn c ps e1
        | .bad => .bad) else .bad) Q X = (f.own = false ∧ f.np = xs.length ∧ wF (f.run [] xs) (fun v _ => Q v e1) fun c ps _ => X c ps e1)
      rw [wR_ite, and_assoc]
      cases f.run [] xs <;> rfl
  · have cr : ∀ k, wR (evE G Γ (.call k es) e) Q X = wR (evEs G Γ es e) (fun xs e1 => cF Γ k xs (fun v => Q v e1) fun c ps => X c ps e1) X := fun k => by
      show wR ((evEs G Γ es e).bind fun xs e1 => match Γ[k]? with
        | some f => if f.own = false ∧ f.np = xs.length then (match f.run [] xs with
          | .ret v _ => R.ok v e1
          | .exn c ps _ => R.exn c ps e1
          | .bad => .bad) else .bad
        | none => .bad) Q X = _
      rw [wR_bind]
      congr 1
      funext xs e1
      unfold cF
      cases Γ[k]? with
      | none => rfl
      | some f =>
        show wR (if f.own = false ∧ f.np = xs.length then (match f.run [] xs with
          | .ret v _ => R.ok v e1
          | .exn c ps _ => R.exn c ps e1
          | .bad => .bad) else .bad) Q X = (f.own = false ∧ f.np = xs.length ∧ wF (f.run [] xs) (fun v _ => Q v e1) fun c ps _ => X c ps e1)
        rw [wR_ite, and_assoc]
        cases f.run [] xs <;> rfl
    show wR (match e[i]? with
      | some (.val (.int w)) => if w = 0 ∨ w = 1 then evE G Γ (.call (if w = 0 then k1 else k2) es) e else R.bad
      | _ => .bad) Q X = _
    unfold sV
    cases e[i]? with
    | none => rfl
    | some s =>
      cases s with
      | un => rfl
      | own _ _ => rfl
      | val d =>
        cases d with
        | int w =>
          show wR (if w = 0 ∨ w = 1 then evE G Γ (.call (if w = 0 then k1 else k2) es) e else R.bad) Q X = ((w = 0 ∨ w = 1) ∧ _)
          by_cases hw : w = 0 ∨ w = 1
          · rw [if_pos hw, cr]
            exact propext ⟨fun z => ⟨hw, z⟩, fun z => z.2⟩
          · rw [if_neg hw]
            exact propext ⟨fun z => z.elim, fun z => absurd z.1 hw⟩
        | _ => rfl
  · show wR ((evEs G Γ es e).bind fun xs e1 => (evE G Γ a e1).bind fun y e2 => match Γ[k]? with
      | some f => if f.own = false ∧ f.np = xs.length + 1 then (match f.run [] (xs ++ [y.fz]) with
        | .ret v _ => R.ok v e2
        | .exn c ps _ => R.exn c ps e2
        | .bad => .bad) else .bad
      | none => .bad) Q X = _
    rw [wR_bind]
    congr 1
    funext xs e1
    rw [wR_bind]
    congr 1
    funext y e2
    unfold cF
    cases Γ[k]? with
    | none => rfl
    | some f =>
      show wR (if f.own = false ∧ f.np = xs.length + 1 then (match f.run [] (xs ++ [y.fz]) with
        | .ret v _ => R.ok v e2
        | .exn c ps _ => R.exn c ps e2
        | .bad => .bad) else .bad) Q X = (f.own = false ∧ f.np = (xs ++ [y.fz]).length ∧ wF (f.run [] (xs ++ [y.fz])) (fun v _ => Q v e2) fun c ps _ => X c ps e2)
      rw [wR_ite, and_assoc, List.length_append]
      show (_ ∧ f.np = xs.length + 1 ∧ _) = (_ ∧ f.np = xs.length + 1 ∧ _)
      cases f.run [] (xs ++ [y.fz]) <;> rfl
  · show wR (match e[i]? with
      | some (.own _ _) => (evEs G Γ es e).bind fun xs e1 => match Γ[k]?, e1[i]? with
        | some f, some (.own p o) => if f.own = true ∧ f.np = xs.length + 1 then (match f.run o xs with
          | .ret v o' => R.ok v (e1.set i (.own p o'))
          | .exn c ps o' => R.exn c ps (e1.set i (.own p o'))
          | .bad => .bad) else .bad
        | _, _ => .bad
      | _ => .bad) Q X = _
    unfold sO
    cases e[i]? with
    | none => rfl
    | some s =>
      cases s with
      | un => rfl
      | val _ => rfl
      | own p xs =>
        show wR ((evEs G Γ es e).bind fun xs e1 => match Γ[k]?, e1[i]? with
          | some f, some (.own p o) => if f.own = true ∧ f.np = xs.length + 1 then (match f.run o xs with
            | .ret v o' => R.ok v (e1.set i (.own p o'))
            | .exn c ps o' => R.exn c ps (e1.set i (.own p o'))
            | .bad => .bad) else .bad
          | _, _ => .bad) Q X = wR (evEs G Γ es e) (fun xs e1 => match e1[i]? with
          | some (.own p o) => cO Γ k o xs (fun v o' => Q v (e1.set i (.own p o'))) fun c ps o' => X c ps (e1.set i (.own p o'))
          | _ => False) X
        rw [wR_bind]
        congr 1
        funext ys e1
        cases hk : Γ[k]? with
        | none =>
          cases e1[i]? with
          | none => rfl
          | some s1 =>
            cases s1 with
            | un => rfl
            | val _ => rfl
            | own p1 o1 =>
              show False = cO Γ k o1 ys _ _
              unfold cO
              rw [hk]
        | some f =>
          cases e1[i]? with
          | none => rfl
          | some s1 =>
            cases s1 with
            | un => rfl
            | val _ => rfl
            | own p1 o1 =>
              show wR (if f.own = true ∧ f.np = ys.length + 1 then (match f.run o1 ys with
                | .ret v o' => R.ok v (e1.set i (.own p1 o'))
                | .exn c ps o' => R.exn c ps (e1.set i (.own p1 o'))
                | .bad => .bad) else .bad) Q X = cO Γ k o1 ys _ _
              unfold cO
              rw [hk, wR_ite, and_assoc]
              show _ = (f.own = true ∧ f.np = ys.length + 1 ∧ wF (f.run o1 ys) _ _)
              cases f.run o1 ys <;> rfl
end
end DL


set_option Elab.async false
set_option linter.all false
set_option maxRecDepth 100000
set_option maxHeartbeats 2000000
/-! DL24: .. argument lists, iterators, comprehensions, statements, defs, data. -/
namespace DL
open PySem

abbrev noX : Str → List D → Env → Prop := fun _ _ _ => False
section
variable (G : List D) (Γ : List Fn)
theorem rEs : (∀ e Q X, wR (evEs G Γ .nil e) Q X = Q [] e) ∧
    (∀ a as e Q X, wR (evEs G Γ (.cons a as) e) Q X = wR (evE G Γ a e) (fun x e1 => wR (evEs G Γ as e1) (fun xs e2 => Q (x.fz :: xs) e2) X) X) ∧
    (∀ e Q X, wR (evOp G Γ .non e) Q X = Q none e) ∧
    (∀ a e Q X, wR (evOp G Γ (.som a) e) Q X = wR (evE G Γ a e) (fun x e1 => asInt x.fz fun i => Q (some i) e1) X) ∧
    (∀ e Q X, wR (evOpT G Γ .non e) Q X = Q true e) ∧
    (∀ a e Q X, wR (evOpT G Γ (.som a) e) Q X = wR (evE G Γ a e) (fun x e1 => wO (tru x.fz) fun k => Q k e1) X) ∧
    (∀ a e Q X, wR (evT G Γ a e) Q X = wR (evE G Γ a e) (fun x e1 => wO (tru x.fz) fun k => Q k e1) X) ∧
    (∀ a e Q X, wR (evIt G Γ (.seq a) e) Q X = wR (evE G Γ a e) (fun x e1 => wO (items? x.fz) fun xs => Q xs e1) X) ∧
    (∀ s es e Q X, wR (evIt G Γ (.zip s es) e) Q X = wR (evEs G Γ es e) (fun xs e1 => wO (zipD s xs) fun xs => Q xs e1) X) ∧
    (∀ it e Q X, wR (evIt G Γ (.enum it) e) Q X = wR (evIt G Γ it e) (fun xs e1 => Q (enumD 0 xs) e1) X) ∧
    (∀ es e Q X, wR (evIt G Γ (.rng es) e) Q X = wR (evEs G Γ es e) (fun xs e1 => wO (rngD xs) fun xs => Q xs e1) X) ∧
    (∀ a e Q X, wR (evIt G Γ (.rev a) e) Q X = wR (evE G Γ a e) (fun x e1 => wO (items? x.fz) fun xs => Q xs.reverse e1) X) ∧
    (∀ x vs g it c e Q X, wR (evE G Γ (.comp x vs g it c) e) Q X = wR (evIt G Γ it e) (fun xs e1 => plainAt e1 vs = true ∧ wR (compGo (bodyC G Γ x vs g c) xs (wipeE e1 vs)) (fun ys e6 => ys.length ≤ lim ∧ Q (.fr ys) (putBack e1 e6 vs)) noX) X) ∧
    (∀ x vs g c z e Q X, wR (bodyC G Γ x vs g c z e) Q X = wO (bindT g z (wipeE e vs)) fun e3 => wR (evOpT G Γ c e3) (fun b e4 => if b = true then wR (evE G Γ x e4) (fun y e5 => Q (some y.fz) e5) X else Q none e4) X) := by
  refine ⟨fun _ _ _ => rfl, fun a as e Q X => ?_, fun _ _ _ => rfl, fun a e Q X => ?_, fun _ _ _ => rfl, fun a e Q X => ?_, fun a e Q X => ?_, fun a e Q X => ?_, fun s es e Q X => ?_, fun it e Q X => ?_, fun es e Q X => ?_, fun a e Q X => ?_, fun x vs g it c e Q X => ?_, fun x vs g c z e Q X => ?_⟩
  · show wR ((evE G Γ a e).bind fun x e1 => (evEs G Γ as e1).bind fun xs e2 => R.ok (x.fz :: xs) e2) Q X = _
    simp only [wR_bind]
    rfl
  · show wR ((evE G Γ a e).bind fun x e1 => match x.fz with | .int i => R.ok (some i) e1 | _ => .bad) Q X = _
    rw [wR_bind]
    congr 1
    funext x e1
    cases x.fz <;> rfl
  · show wR ((evE G Γ a e).bind fun x e1 => toR (tru x.fz) e1) Q X = _
    simp only [wR_bind, wR_toR]
  · show wR ((evE G Γ a e).bind fun x e1 => toR (tru x.fz) e1) Q X = _
    simp only [wR_bind, wR_toR]
  · show wR ((evE G Γ a e).bind fun x e1 => toR (items? x.fz) e1) Q X = _
    simp only [wR_bind, wR_toR]
  · show wR ((evEs G Γ es e).bind fun xs e1 => toR (zipD s xs) e1) Q X = _
    simp only [wR_bind, wR_toR]
  · show wR ((evIt G Γ it e).bind fun xs e1 => R.ok (enumD 0 xs) e1) Q X = _
    simp only [wR_bind]
    rfl
  · show wR ((evEs G Γ es e).bind fun xs e1 => toR (rngD xs) e1) Q X = _
    simp only [wR_bind, wR_toR]
  · show wR ((evE G Γ a e).bind fun x e1 => toR ((items? x.fz).map List.reverse) e1) Q X = _
    simp only [wR_bind, wR_toR, wO_map]
  · rw [evE_comp, wR_bind]
    congr 1
    funext xs e1
    unfold restC
    cases plainAt e1 vs with
    | false => simp [wR]
    | true =>
      rw [if_pos rfl]
      cases compGo (bodyC G Γ x vs g c) xs (wipeE e1 vs) with
      | bad => simp [wR]
      | exn _ _ _ => simp [wR, noX]
      | ok ys e6 =>
        show wR (if ys.length ≤ lim then R.ok (DV.fr ys) (putBack e1 e6 vs) else .bad) Q X = (true = true ∧ (ys.length ≤ lim ∧ Q (.fr ys) (putBack e1 e6 vs)))
        rw [wR_ite]
        simp [wR]
  · unfold bodyC
    cases bindT g z (wipeE e vs) with
    | none => rfl
    | some e3 =>
      show wR ((evOpT G Γ c e3).bind fun b e4 => if b then (evE G Γ x e4).bind fun y e5 => R.ok (some y.fz) e5 else R.ok none e4) Q X = wR (evOpT G Γ c e3) _ X
      rw [wR_bind]
      congr 1
      funext b e4
      cases b with
      | true =>
        show wR ((evE G Γ x e4).bind fun y e5 => R.ok (some y.fz) e5) Q X = _
        simp only [wR_bind, if_true]
        rfl
      | false => simp [wR]
/-- behind a try that catches -/
def cat (c : Str) (i j : Nat) (Q : RS → Prop) : RS → Prop
  | .exn k ps e1 => exNames.contains k = true ∧ (if exSub k c = true then ps = [] ∧ i < e1.length ∧ Q (.nx (((e1.set i (.val (exD k []))).set j (.val (exD k []))).set i .un)) else Q (.exn k ps e1))
  | r => Q r
/-- .. that keeps a field -/
def catT (c : Str) (i j k : Nat) (Q : RS → Prop) : RS → Prop
  | .exn x ps e1 => x = c ∧ ∃ p, ps = [p] ∧ (i < e1.length ∧ j ≠ i ∧ k ≠ i) ∧ Q (.nx ((((e1.set i (.val (exD c [p]))).set j (.val (exD c [p]))).set k (.val p)).set i .un))
  | r => Q r
/-- the rules of statements -/
theorem rS : (∀ e Q, wS (evSs G Γ .nil e) Q = Q (.nx e)) ∧
    (∀ s ss e Q, wS (evSs G Γ (.cons s ss) e) Q = wS (evS G Γ s e) (nxt (fun e1 => wS (evSs G Γ ss e1) Q) Q)) ∧
    (∀ t a e Q, wS (evS G Γ (.asg t a) e) Q = wR (evE G Γ a e) (fun x e1 => wO (bindT t x.fz e1) fun e2 => Q (.nx e2)) (sEx Q)) ∧
    (∀ i a e Q, wS (evS G Γ (.own i a) e) Q = wR (evE G Γ a e) (fun x e1 => isD x fun xs => Q (.nx (e1.set i (.own false xs)))) (sEx Q)) ∧
    (∀ i k a e Q, wS (evS G Γ (.seti i k a) e) Q = wR (evE G Γ a e) (fun x e1 => sO e1 i fun _ _ => wR (evE G Γ k e1) (fun j e2 => sO e2 i fun p xs => asInt j.fz fun n => wO (L2.ixN xs.length n) fun m => Q (.nx (e2.set i (.own p (xs.set m x.fz))))) (sEx Q)) (sEx Q)) ∧
    (∀ i a e Q, wS (evS G Γ (.app i a) e) Q = sO e i fun _ _ => wR (evE G Γ a e) (fun x e1 => sO e1 i fun p xs => xs.length < lim ∧ Q (.nx (e1.set i (.own p (xs ++ [x.fz]))))) (sEx Q)) ∧
    (∀ c a b e Q, wS (evS G Γ (.ife c a b) e) Q = wR (evE G Γ c e) (fun x e1 => wO (tru x.fz) fun k => if k = true then wS (evSs G Γ a e1) Q else wS (evSs G Γ b e1) Q) (sEx Q)) ∧
    (∀ g it b e Q, wS (evS G Γ (.for_ g it b) e) Q = wR (evIt G Γ it e) (fun xs e1 => wS (forGo g (evSs G Γ b) xs e1) Q) (sEx Q)) ∧
    (∀ n c b e Q, wS (evS G Γ (.whil n c b) e) Q = wS (whileGo (evT G Γ c) (evSs G Γ b) (n e) e) Q) ∧
    (∀ a e Q, wS (evS G Γ (.ret a) e) Q = wR (evE G Γ a e) (fun x e1 => Q (.rt x e1)) (sEx Q)) ∧
    (∀ e Q, wS (evS G Γ .retn e) Q = Q (.rt (.d .none) e)) ∧
    (∀ c es e Q, wS (evS G Γ (.rai c es) e) Q = wR (evEs G Γ es e) (fun xs e1 => Q (.exn c xs e1)) (sEx Q)) ∧
    (∀ a e Q, wS (evS G Γ (.ex a) e) Q = wR (evE G Γ a e) (fun _ e1 => Q (.nx e1)) (sEx Q)) ∧
    (∀ b c i j e Q, wS (evS G Γ (.tryc b c i j) e) Q = wS (evSs G Γ b e) (cat c i j Q)) ∧
    (∀ b c i j k e Q, wS (evS G Γ (.tryd b c i j k) e) Q = wS (evSs G Γ b e) (catT c i j k Q)) ∧
    (∀ e Q, wS (evS G Γ .pass e) Q = Q (.nx e)) ∧ (∀ e Q, wS (evS G Γ .brk e) Q = Q (.bk e)) ∧ (∀ e Q, wS (evS G Γ .cnt e) Q = Q (.ct e)) := by
  refine ⟨fun _ _ => rfl, fun s ss e Q => ?_, fun t a e Q => ?_, fun i a e Q => ?_, fun i k a e Q => ?_, fun i a e Q => ?_, fun c a b e Q => ?_, fun g it b e Q => ?_, fun _ _ _ _ _ => rfl, fun a e Q => ?_, fun _ _ => rfl, fun c es e Q => ?_, fun a e Q => ?_, fun b c i j e Q => ?_, fun b c i j k e Q => ?_, fun _ _ => rfl, fun _ _ => rfl, fun _ _ => rfl⟩
  · show wS (match evS G Γ s e with | .nx e1 => evSs G Γ ss e1 | r => r) Q = _
    cases evS G Γ s e <;> rfl
  · show wS ((evE G Γ a e).thn fun x e1 => match bindT t x.fz e1 with | some e2 => .nx e2 | none => .bad) Q = _
    rw [wS_thn]
    congr 1
    funext x e1
    cases bindT t x.fz e1 <;> rfl
  · show wS ((evE G Γ a e).thn fun x e1 => match x with | .fr xs => .nx (e1.set i (.own false xs)) | .d _ => .bad) Q = _
    rw [wS_thn]
    congr 1
    funext x e1
    cases x <;> rfl
  · show wS ((evE G Γ a e).thn fun x e1 => match e1[i]? with
      | some (.own _ _) => (evE G Γ k e1).thn fun j e2 => match e2[i]?, j.fz with
        | some (.own p xs), .int n => match L2.ixN xs.length n with
          | some m => .nx (e2.set i (.own p (xs.set m x.fz)))
          | none => .bad
        | _, _ => .bad
      | _ => .bad) Q = _
    rw [wS_thn]
    congr 1
    funext x e1
    unfold sO
    cases e1[i]? with
    | none => rfl
    | some s =>
      cases s with
      | un => rfl
      | val _ => rfl
      | own p0 xs0 =>
        show wS ((evE G Γ k e1).thn fun j e2 => match e2[i]?, j.fz with
          | some (.own p xs), .int n => match L2.ixN xs.length n with
            | some m => .nx (e2.set i (.own p (xs.set m x.fz)))
            | none => .bad
          | _, _ => .bad) Q = wR (evE G Γ k e1) _ (sEx Q)
        rw [wS_thn]
        congr 1
        funext j e2
        cases e2[i]? with
        | none => rfl
        | some s2 =>
          cases s2 with
          | un => rfl
          | val _ => rfl
          | own p xs =>
            cases j.fz with
            | int n =>
              show wS (match L2.ixN xs.length n with | some m => .nx (e2.set i (.own p (xs.set m x.fz))) | none => .bad) Q = wO (L2.ixN xs.length n) _
              cases L2.ixN xs.length n <;> rfl
            | _ => rfl
  · show wS (match e[i]? with
      | some (.own _ _) => (evE G Γ a e).thn fun x e1 => match e1[i]? with
        | some (.own p xs) => if xs.length < lim then .nx (e1.set i (.own p (xs ++ [x.fz]))) else .bad
        | _ => .bad
      | _ => .bad) Q = _
    unfold sO
    cases e[i]? with
    | none => rfl
    | some s =>
      cases s with
      | un => rfl
      | val _ => rfl
      | own p0 xs0 =>
        show wS ((evE G Γ a e).thn fun x e1 => match e1[i]? with
          | some (.own p xs) => if xs.length < lim then .nx (e1.set i (.own p (xs ++ [x.fz]))) else .bad
          | _ => .bad) Q = wR (evE G Γ a e) _ (sEx Q)
        rw [wS_thn]
        congr 1
        funext x e1
        cases e1[i]? with
        | none => rfl
        | some s1 =>
          cases s1 with
          | un => rfl
          | val _ => rfl
          | own p xs =>
            show wS (if xs.length < lim then .nx (e1.set i (.own p (xs ++ [x.fz]))) else .bad) Q = (xs.length < lim ∧ Q (.nx (e1.set i (.own p (xs ++ [x.fz])))))
            by_cases h : xs.length < lim
            · rw [if_pos h]; simp [h, wS]
            · rw [if_neg h]; simp [h, wS]
  · show wS ((evT G Γ c e).thn fun x e1 => if x then evSs G Γ a e1 else evSs G Γ b e1) Q = _
    rw [wS_thn]
    show wR ((evE G Γ c e).bind fun x e1 => toR (tru x.fz) e1) _ _ = _
    simp only [wR_bind, wR_toR, wS_ite]
  · show wS ((evIt G Γ it e).thn fun xs e1 => forGo g (evSs G Γ b) xs e1) Q = _
    rw [wS_thn]
  · show wS ((evE G Γ a e).thn fun x e1 => .rt x e1) Q = _
    rw [wS_thn]
    rfl
  · show wS ((evEs G Γ es e).thn fun xs e1 => .exn c xs e1) Q = _
    rw [wS_thn]
    rfl
  · show wS ((evE G Γ a e).thn fun _ e1 => .nx e1) Q = _
    rw [wS_thn]
    rfl
  · show wS (match evSs G Γ b e with
      | .exn k ps e1 => catR c i j k ps e1
      | r => r) Q = _
    cases evSs G Γ b e with
    | exn k ps e1 =>
      show wS (catR c i j k ps e1) Q = cat c i j Q (.exn k ps e1)
      unfold cat catR
      by_cases hk : exNames.contains k = true
      · rw [if_pos hk]
        by_cases hs : exSub k c = true
        · rw [if_pos hs]
          cases ps with
          | cons _ _ => simp only [wS, hk, hs, if_true, true_and, reduceCtorEq, false_and]
          | nil =>
            show wS (if i < e1.length then .nx (((e1.set i (.val (exD k []))).set j (.val (exD k []))).set i .un) else .bad) Q = _
            by_cases hi : i < e1.length
            · rw [if_pos hi]; simp only [wS, hk, hs, hi, if_true, true_and]
            · rw [if_neg hi]; simp only [wS, hk, hs, hi, if_true, true_and, false_and]
        · rw [if_neg hs]; simp only [wS, hk, hs, if_false, true_and, Bool.false_eq_true]
      · rw [if_neg hk]; simp only [wS, hk, false_and, Bool.false_eq_true]
    | bad => rfl
    | nx e => rfl
    | bk e => rfl
    | ct e => rfl
    | rt v e => rfl
  · show wS (match evSs G Γ b e with
      | .exn x ps e1 => catD c i j k x ps e1
      | r => r) Q = _
    cases evSs G Γ b e with
    | exn x ps e1 =>
      show wS (catD c i j k x ps e1) Q = catT c i j k Q (.exn x ps e1)
      unfold catD catT
      by_cases hx : x = c
      · rw [if_pos hx]
        match ps with
        | [] => simp [wS]
        | [p] =>
          show wS (if i < e1.length ∧ j ≠ i ∧ k ≠ i then .nx ((((e1.set i (.val (exD c [p]))).set j (.val (exD c [p]))).set k (.val p)).set i .un) else .bad) Q = _
          by_cases hi : i < e1.length ∧ j ≠ i ∧ k ≠ i
          · rw [if_pos hi]
            refine propext ⟨fun h => ⟨hx, p, rfl, hi, h⟩, fun ⟨_, p', e, _, h⟩ => ?_⟩
            injection e with e
            subst e
            exact h
          · rw [if_neg hi]
            refine propext ⟨fun h => h.elim, fun ⟨_, p', e, h, _⟩ => absurd h hi⟩
        | _ :: _ :: _ => exact propext ⟨fun h => h.elim, fun ⟨_, p', e, _⟩ => by cases e⟩
      · rw [if_neg hx]
        exact propext ⟨fun h => h.elim, fun h => absurd h.1 hx⟩
    | bad => rfl
    | nx e => rfl
    | bk e => rfl
    | ct e => rfl
    | rt v e => rfl
theorem rF (own : Bool) (n : Nat) (b : Sxs) (o xs : List D) (Q : DV → List D → Prop) (X : Str → List D → List D → Prop) : wF (evF G Γ own n b o xs) Q X = wS (evSs G Γ b (env0 own n o xs)) (endP own Q X) := by
  rw [evF_eq]
  have fe : ∀ (e : Env) (f : List D → FR), wF (finF own e f) Q X = finP own e fun o => wF (f o) Q X := fun e f => by
    unfold finF finP sO
    cases own with
    | false => rfl
    | true =>
      simp only [if_true]
      cases (e[0]? : Option Slot) with
      | none => rfl
      | some s =>
        cases s with
        | un => rfl
        | val _ => rfl
        | own p o' => cases p <;> simp [wF]
  cases evSs G Γ b (env0 own n o xs) with
  | nx e => exact fe e _
  | rt v e => exact fe e _
  | exn c ps e => exact fe e _
  | bk e => rfl
  | ct e => rfl
  | bad => rfl
end

/-- a for's turns: I of what is left and the slots -/
theorem for_inv {g : Tg} {f : Env → RS} {Q : RS → Prop} (I : List D → Env → Prop) (step : ∀ x r e, I (x :: r) e → wO (bindT g x e) fun e1 => wS (f e1) fun s => match s with
      | .nx e2 => I r e2
      | .ct e2 => I r e2
      | .bk e2 => Q (.nx e2)
      | s => Q s) (done : ∀ e, I [] e → Q (.nx e)) : ∀ (xs : List D) (e : Env), I xs e → wS (forGo g f xs e) Q
  | [], e, h => done e h
  | x :: r, e, h => by
    have s := step x r e h
    show wS (match bindT g x e with
      | none => .bad
      | some e1 => match f e1 with
        | .nx e2 => forGo g f r e2
        | .ct e2 => forGo g f r e2
        | .bk e2 => .nx e2
        | .rt v e2 => .rt v e2
        | .exn c ps e2 => .exn c ps e2
        | .bad => .bad) Q
    cases hb : bindT g x e with
    | none => rw [hb] at s; exact s.elim
    | some e1 =>
      rw [hb] at s
      have s : wS (f e1) fun s => match s with
        | .nx e2 => I r e2
        | .ct e2 => I r e2
        | .bk e2 => Q (.nx e2)
        | s => Q s := s
      show wS (match f e1 with
        | .nx e2 => forGo g f r e2
        | .ct e2 => forGo g f r e2
        | .bk e2 => .nx e2
        | .rt v e2 => .rt v e2
        | .exn c ps e2 => .exn c ps e2
        | .bad => .bad) Q
      cases hf : f e1 with
      | nx e2 => rw [hf] at s; exact for_inv I step done r e2 s
      | ct e2 => rw [hf] at s; exact for_inv I step done r e2 s
      | bk e2 => rw [hf] at s; exact s
      | rt v e2 => rw [hf] at s; exact s
      | exn c ps e2 => rw [hf] at s; exact s
      | bad => rw [hf] at s; exact s
theorem while_inv {c : Env → R Bool} {f : Env → RS} {Q : RS → Prop} (I : Env → Prop) (m : Env → Nat) (step : ∀ e, I e → wR (c e) (fun b e1 => if b = true then wS (f e1) fun s => match s with
      | .nx e2 => I e2 ∧ m e2 < m e
      | .ct e2 => I e2 ∧ m e2 < m e
      | .bk e2 => Q (.nx e2)
      | s => Q s else Q (.nx e1)) (sEx Q)) : ∀ (n : Nat) (e : Env), I e → m e < n → wS (whileGo c f n e) Q
  | 0, e, _, h => absurd h (Nat.not_lt_zero _)
  | n + 1, e, h, hm => by
    show wS ((c e).thn fun b e1 => if b then (match f e1 with
      | .nx e2 => whileGo c f n e2
      | .ct e2 => whileGo c f n e2
      | .bk e2 => .nx e2
      | .rt v e2 => .rt v e2
      | .exn c ps e2 => .exn c ps e2
      | .bad => .bad) else .nx e1) Q
    rw [wS_thn]
    refine wR.imp (step e h) (fun b e1 s => ?_) fun _ _ _ x => x
    cases b with
    | false => exact s
    | true =>
      rw [if_pos rfl] at s
      show wS (match f e1 with
        | .nx e2 => whileGo c f n e2
        | .ct e2 => whileGo c f n e2
        | .bk e2 => .nx e2
        | .rt v e2 => .rt v e2
        | .exn c ps e2 => .exn c ps e2
        | .bad => .bad) Q
      cases hf : f e1 with
      | nx e2 => rw [hf] at s; exact while_inv I m step n e2 s.1 (by have := s.2; omega)
      | ct e2 => rw [hf] at s; exact while_inv I m step n e2 s.1 (by have := s.2; omega)
      | bk e2 => rw [hf] at s; exact s
      | rt v e2 => rw [hf] at s; exact s
      | exn c ps e2 => rw [hf] at s; exact s
      | bad => rw [hf] at s; exact s
/-- two lists, item by item -/
inductive All2 {α β : Type} (P : α → β → Prop) : List α → List β → Prop
  | nil : All2 P [] []
  | cons {x y xs ys} : P x y → All2 P xs ys → All2 P (x :: xs) (y :: ys)
/-- a comprehension's turns, each with an item -/
theorem comp_all {f : D → Env → R (Option D)} (I : Env → Prop) (P : D → D → Prop) : ∀ (xs : List D) (e : Env), I e → (∀ x ∈ xs, ∀ e, I e → wR (f x e) (fun o e1 => I e1 ∧ ∃ y, o = some y ∧ P x y) noX) → wR (compGo f xs e) (fun ys e1 => I e1 ∧ All2 P xs ys) noX
  | [], e, h, _ => ⟨h, .nil⟩
  | x :: r, e, h, s => by
    have s1 := s x List.mem_cons_self e h
    show wR (match f x e with
      | .ok o e1 => match compGo f r e1 with
        | .ok ys e2 => R.ok (match o with | some y => y :: ys | none => ys) e2
        | _ => .bad
      | _ => .bad) _ noX
    cases hf : f x e with
    | bad => rw [hf] at s1; exact s1.elim
    | exn _ _ _ => rw [hf] at s1; exact s1.elim
    | ok o e1 =>
      rw [hf] at s1
      obtain ⟨h1, y, ey, hp⟩ := s1
      subst ey
      have ih := comp_all I P r e1 h1 fun z hz => s z (List.mem_cons_of_mem _ hz)
      show wR (match compGo f r e1 with
        | .ok ys e2 => R.ok (y :: ys) e2
        | _ => .bad) _ noX
      cases hc : compGo f r e1 with
      | bad => rw [hc] at ih; exact ih.elim
      | exn _ _ _ => rw [hc] at ih; exact ih.elim
      | ok ys e2 =>
        rw [hc] at ih
        exact ⟨ih.1, .cons hp ih.2⟩
/-- .. as a function of the items, some left out -/
theorem comp_fm {f : D → Env → R (Option D)} (I : Env → Prop) (h : D → Option D) : ∀ (xs : List D) (e : Env), I e → (∀ x ∈ xs, ∀ e, I e → wR (f x e) (fun o e1 => I e1 ∧ o = h x) noX) → wR (compGo f xs e) (fun ys e1 => I e1 ∧ ys = xs.filterMap h) noX
  | [], e, hi, _ => ⟨hi, rfl⟩
  | x :: r, e, hi, s => by
    have s1 := s x List.mem_cons_self e hi
    show wR (match f x e with
      | .ok o e1 => match compGo f r e1 with
        | .ok ys e2 => R.ok (match o with | some y => y :: ys | none => ys) e2
        | _ => .bad
      | _ => .bad) _ noX
    cases hf : f x e with
    | bad => rw [hf] at s1; exact s1.elim
    | exn _ _ _ => rw [hf] at s1; exact s1.elim
    | ok o e1 =>
      rw [hf] at s1
      obtain ⟨h1, ey⟩ := s1
      have ih := comp_fm I h r e1 h1 fun z hz => s z (List.mem_cons_of_mem _ hz)
      show wR (match compGo f r e1 with
        | .ok ys e2 => R.ok (match o with | some y => y :: ys | none => ys) e2
        | _ => .bad) _ noX
      cases hc : compGo f r e1 with
      | bad => rw [hc] at ih; exact ih.elim
      | exn _ _ _ => rw [hc] at ih; exact ih.elim
      | ok ys e2 =>
        rw [hc] at ih
        obtain ⟨i1, i2⟩ := ih
        subst ey i2
        refine ⟨i1, ?_⟩
        rw [List.filterMap_cons]
        cases h x <;> rfl
end DL


set_option Elab.async false
set_option linter.all false
set_option maxRecDepth 100000
set_option maxHeartbeats 2000000
/-! DL25: rules of data. -/
namespace DL
open PySem
section
variable {α : Type}
theorem wO_some {a : α} {Q : α → Prop} : wO (some a) Q = Q a := rfl
theorem wO_none {Q : α → Prop} : wO (none : Option α) Q = False := rfl
end
theorem lay_int (i : Int) : lay (.int i) = true := by simp [lay, SeqAt.shaped, PyData.canLay0, PyData.depth]
/-- arithmetic, truth, comparisons of data that is known -/
theorem rB : (∀ i j (Q : DV → Prop), wO (bin .add (.int i) (.int j)) Q = Q (.d (.int (i + j)))) ∧
    (∀ xs ys (Q : DV → Prop), wO (bin .add (.tuple xs) (.tuple ys)) Q = (xs.length + ys.length ≤ lim ∧ Q (.d (.tuple (xs ++ ys))))) ∧
    (∀ xs ys (Q : DV → Prop), wO (bin .add (.list xs) (.list ys)) Q = (xs.length + ys.length ≤ lim ∧ Q (.fr (xs ++ ys)))) ∧
    (∀ i j (Q : DV → Prop), wO (bin .sub (.int i) (.int j)) Q = Q (.d (.int (i - j)))) ∧
    (∀ i j (Q : DV → Prop), wO (bin .mul (.int i) (.int j)) Q = ((i.natAbs < 2 ^ 64 ∨ j.natAbs < 2 ^ 64 ∨ i.natAbs.log2 + j.natAbs.log2 < 1000000) ∧ Q (.d (.int (i * j))))) ∧
    (∀ i j (Q : DV → Prop), wO (bin .fdiv (.int i) (.int j)) Q = ((j ≠ 0 ∧ (j.natAbs.log2 < 9000 ∨ i.natAbs.log2 < 13400)) ∧ Q (.d (.int (i.fdiv j))))) ∧
    (∀ i j (Q : DV → Prop), wO (bin .mod (.int i) (.int j)) Q = (j ≠ 0 ∧ Q (.d (.int (i.fmod j))))) ∧
    (∀ i j (Q : DV → Prop), wO (bin .pow (.int i) (.int j)) Q = ((0 ≤ j ∧ j ≤ 1000000 ∧ i.natAbs < 2 ^ 64) ∧ Q (.d (.int (i ^ j.toNat))))) ∧
    (∀ (Q : Bool → Prop), wO (tru .none) Q = Q false) ∧ (∀ b (Q : Bool → Prop), wO (tru (.bool b)) Q = Q b) ∧ (∀ i (Q : Bool → Prop), wO (tru (.int i)) Q = Q (i != 0)) ∧
    (∀ xs (Q : Bool → Prop), wO (tru (.list xs)) Q = Q (!xs.isEmpty)) ∧ (∀ xs (Q : Bool → Prop), wO (tru (.tuple xs)) Q = Q (!xs.isEmpty)) ∧
    (∀ i j (Q : Bool → Prop), wO (cmp .lt (.int i) (.int j)) Q = Q (decide (i < j))) ∧ (∀ i j (Q : Bool → Prop), wO (cmp .le (.int i) (.int j)) Q = Q (decide (i ≤ j))) ∧
    (∀ i j (Q : Bool → Prop), wO (cmp .gt (.int i) (.int j)) Q = Q (decide (j < i))) ∧ (∀ i j (Q : Bool → Prop), wO (cmp .ge (.int i) (.int j)) Q = Q (decide (j ≤ i))) ∧
    (∀ i j (Q : Bool → Prop), wO (cmp .eq (.int i) (.int j)) Q = Q (decide (i = j))) ∧ (∀ i j (Q : Bool → Prop), wO (cmp .ne (.int i) (.int j)) Q = Q (!decide (i = j))) ∧
    (∀ xs i (Q : D → Prop), wO (ix (.list xs) (.int i)) Q = wO (L2.atI xs i) Q) ∧ (∀ xs i (Q : D → Prop), wO (ix (.tuple xs) (.int i)) Q = wO (L2.atI xs i) Q) ∧
    (∀ xs i (Q : D → Prop), wO (ix (.dict [(.none, .list xs)]) (.int i)) Q = wO (L2.atI xs i) Q) ∧
    (∀ i (Q : Int → Prop), asInt (.int i) Q = Q i) ∧ (∀ xs (Q : List D → Prop), isD (.fr xs) Q = Q xs) ∧
    (∀ xs (Q : List D → Prop), wO (items? (.list xs)) Q = Q xs) ∧ (∀ xs (Q : List D → Prop), wO (items? (.tuple xs)) Q = Q xs) ∧
    (∀ i x e (Q : Env → Prop), wO (bindT (.nm i) x e) Q = Q (e.set i (.val x))) ∧ (∀ ts xs e (Q : Env → Prop), wO (bindT (.tp ts) (.tuple xs) e) Q = wO (bindTs ts xs e) Q) ∧ (∀ ts xs e (Q : Env → Prop), wO (bindT (.tp ts) (.list xs) e) Q = wO (bindTs ts xs e) Q) ∧
    (∀ e (Q : Env → Prop), wO (bindTs [] [] e) Q = Q e) ∧ (∀ t ts x xs e (Q : Env → Prop), wO (bindTs (t :: ts) (x :: xs) e) Q = wO (bindT t x e) fun e1 => wO (bindTs ts xs e1) Q) := by
  refine ⟨fun _ _ _ => rfl, fun _ _ _ => wO_ite, fun _ _ _ => wO_ite, fun _ _ _ => rfl, fun _ _ _ => wO_ite, fun _ _ _ => wO_ite, fun _ _ _ => wO_ite, fun _ _ _ => wO_ite, fun _ => rfl, fun _ _ => rfl, fun _ _ => rfl, fun _ _ => rfl, fun _ _ => rfl,
    fun _ _ _ => rfl, fun _ _ _ => rfl, fun _ _ _ => rfl, fun _ _ _ => rfl, fun i j Q => ?_, fun i j Q => ?_, fun _ _ _ => rfl, fun _ _ _ => rfl, fun _ _ _ => rfl, fun _ _ => rfl, fun _ _ => rfl, fun _ _ => rfl, fun _ _ => rfl, fun _ _ _ _ => rfl, fun _ _ _ _ => rfl, fun _ _ _ _ => rfl, fun _ _ => rfl, fun t ts x xs e Q => ?_⟩
  · have e : cmp .eq (.int i) (.int j) = some (decide (i = j)) := by
      simp only [cmp, lay_int, Bool.and_self, if_true, PyData.eqv]
      simp [Bool.beq_eq_decide_eq]
    rw [e, wO_some]
  · have e : cmp .ne (.int i) (.int j) = some (!decide (i = j)) := by
      simp only [cmp, lay_int, Bool.and_self, if_true, PyData.eqv]
      simp [Bool.beq_eq_decide_eq]
    rw [e, wO_some]
  · show wO (match bindT t x e with | some e1 => bindTs ts xs e1 | none => none) Q = _
    cases bindT t x e <;> rfl
/-- slots, by place -/
theorem rV : (∀ x e (Q : D → Prop), sV (.val x :: e) 0 Q = Q x) ∧ (∀ s e i (Q : D → Prop), sV (s :: e) (i + 1) Q = sV e i Q) ∧
    (∀ p xs e (Q : Bool → List D → Prop), sO (.own p xs :: e) 0 Q = Q p xs) ∧ (∀ s e i (Q : Bool → List D → Prop), sO (s :: e) (i + 1) Q = sO e i Q) := by
  refine ⟨fun _ _ _ => rfl, fun s e i Q => ?_, fun _ _ _ _ => rfl, fun s e i Q => ?_⟩
  · unfold sV; rw [List.getElem?_cons_succ]
  · unfold sO; rw [List.getElem?_cons_succ]
end DL
namespace DL
open PySem
theorem rZ : (∀ x, (DV.d x).fz = x) ∧ (∀ xs, (DV.fr xs).fz = .list xs) ∧ (∀ f Q e, nxt f Q (.nx e) = f e) ∧ (∀ f Q e, nxt f Q (.bk e) = Q (.bk e)) ∧ (∀ f Q e, nxt f Q (.ct e) = Q (.ct e)) ∧ (∀ f Q v e, nxt f Q (.rt v e) = Q (.rt v e)) ∧ (∀ f Q c ps e, nxt f Q (.exn c ps e) = Q (.exn c ps e)) ∧
    (∀ own Q X e, endP own Q X (.nx e) = finP own e (Q (.d .none))) ∧ (∀ own Q X v e, endP own Q X (.rt v e) = finP own e (Q v)) ∧ (∀ own Q X c ps e, endP own Q X (.exn c ps e) = finP own e (X c ps)) ∧
    (∀ e f, finP false e f = f []) ∧ (∀ e f, finP true e f = sO e 0 fun p o => p = true ∧ f o) ∧ (∀ (x : Slot) l y, (x :: l).set 0 y = y :: l) ∧ (∀ (x : Slot) l n y, (x :: l).set (n + 1) y = x :: l.set n y) ∧
    (∀ (p : Prop), (true = true ∧ p) = p) ∧ (∀ (a b : Prop), (if true = true then a else b) = a) ∧ (∀ (a b : Prop), (if false = true then a else b) = b) ∧
    (∀ (x : D) l (Q : D → Prop), wO (L2.atI (x :: l) 0) Q = Q x) ∧ (∀ (x y : D) l (Q : D → Prop), wO (L2.atI (x :: y :: l) 1) Q = Q y) ∧ (∀ (x y z : D) l (Q : D → Prop), wO (L2.atI (x :: y :: z :: l) 2) Q = Q z) ∧ (∀ (x y z t : D) l (Q : D → Prop), wO (L2.atI (x :: y :: z :: t :: l) 3) Q = Q t) := by
  refine ⟨fun _ => rfl, fun _ => rfl, fun _ _ _ => rfl, fun _ _ _ => rfl, fun _ _ _ => rfl, fun _ _ _ _ => rfl, fun _ _ _ _ _ => rfl, fun _ _ _ _ => rfl, fun _ _ _ _ _ => rfl, fun _ _ _ _ _ _ => rfl, fun _ _ => rfl, fun _ _ => rfl, fun _ _ _ => rfl, fun _ _ _ _ => rfl, fun p => by simp, fun _ _ => if_pos rfl, fun _ _ => if_neg Bool.false_ne_true,
    fun x l Q => ?_, fun x y l Q => ?_, fun x y z l Q => ?_, fun x y z t l Q => ?_⟩
  · have e : L2.atI (x :: l) 0 = some x := L2.atI_nat (j := 0) rfl
    rw [e, wO_some]
  · have e : L2.atI (x :: y :: l) 1 = some y := L2.atI_nat (j := 1) rfl
    rw [e, wO_some]
  · have e : L2.atI (x :: y :: z :: l) 2 = some z := L2.atI_nat (j := 2) rfl
    rw [e, wO_some]
  · have e : L2.atI (x :: y :: z :: t :: l) 3 = some t := L2.atI_nat (j := 3) rfl
    rw [e, wO_some]
end DL


set_option Elab.async false
set_option linter.all false
set_option maxRecDepth 100000
set_option maxHeartbeats 2000000
/-! DL26: calls by place; data that may be compared; equal data. -/
namespace DL
open PySem
theorem rC : (∀ f Γ xs Q X, cF (f :: Γ) 0 xs Q X = (f.own = false ∧ f.np = xs.length ∧ wF (f.run [] xs) (fun v _ => Q v) fun c ps _ => X c ps)) ∧ (∀ f Γ k xs Q X, cF (f :: Γ) (k + 1) xs Q X = cF Γ k xs Q X) ∧
    (∀ f Γ o xs Q X, cO (f :: Γ) 0 o xs Q X = (f.own = true ∧ f.np = xs.length + 1 ∧ wF (f.run o xs) Q X)) ∧ (∀ f Γ k o xs Q X, cO (f :: Γ) (k + 1) o xs Q X = cO Γ k o xs Q X) := by
  refine ⟨fun _ _ _ _ _ => rfl, fun f Γ k xs Q X => ?_, fun _ _ _ _ _ _ => rfl, fun f Γ k o xs Q X => ?_⟩
  · unfold cF; rw [List.getElem?_cons_succ]
  · unfold cO; rw [List.getElem?_cons_succ]
theorem rI : (∀ Q c ps e, sEx Q c ps e = Q (.exn c ps e)) ∧ (∀ (x : D) l (Q : Nat → Prop), wO (L2.ixN (x :: l).length 0) Q = Q 0) ∧ (∀ (x y : D) l (Q : Nat → Prop), wO (L2.ixN (x :: y :: l).length 1) Q = Q 1) ∧ (∀ (x y z : D) l (Q : Nat → Prop), wO (L2.ixN (x :: y :: z :: l).length 2) Q = Q 2) ∧
    (∀ (x : D) l y, (x :: l).set 0 y = y :: l) ∧ (∀ (x : D) l n y, (x :: l).set (n + 1) y = x :: l.set n y) ∧ (∀ p : Prop, (True ∧ p) = p) := by
  have h : ∀ (n j : Nat), j < n → L2.ixN n (j : Int) = some j := fun n j hj => by
    unfold L2.ixN
    rw [if_pos (by omega), if_pos (by omega)]
    rfl
  refine ⟨fun _ _ _ _ => rfl, fun x l Q => ?_, fun x y l Q => ?_, fun x y z l Q => ?_, fun _ _ _ => rfl, fun _ _ _ _ => rfl, fun p => by simp⟩
  · rw [show L2.ixN (x :: l).length 0 = some 0 from h _ 0 (by simp), wO_some]
  · rw [show L2.ixN (x :: y :: l).length 1 = some 1 from h _ 1 (by simp), wO_some]
  · rw [show L2.ixN (x :: y :: z :: l).length 2 = some 2 from h _ 2 (by simp), wO_some]
theorem rU : (∀ b (Q : DV → Prop), wO (bi .int [.bool b]) Q = Q (.d (.int (if b = true then 1 else 0)))) ∧ (∀ i (Q : DV → Prop), wO (bi .int [.int i]) Q = Q (.d (.int i))) ∧ (∀ i (Q : DV → Prop), wO (bi .abs [.int i]) Q = Q (.d (.int (if i < 0 then -i else i)))) ∧
    (∀ xs (Q : DV → Prop), wO (bi .len [.list xs]) Q = Q (.d (.int xs.length))) ∧ (∀ xs (Q : DV → Prop), wO (bi .len [.tuple xs]) Q = Q (.d (.int xs.length))) ∧ (∀ xs (Q : DV → Prop), wO (bi .len [.dict [(.none, .list xs)]]) Q = Q (.d (.int xs.length))) ∧
    (∀ xs (Q : DV → Prop), wO (bi .tuple [.list xs]) Q = Q (.d (.tuple xs))) ∧ (∀ xs (Q : DV → Prop), wO (bi .tuple [.tuple xs]) Q = Q (.d (.tuple xs))) ∧ (∀ xs (Q : DV → Prop), wO (bi .list [.list xs]) Q = Q (.fr xs)) ∧ (∀ xs (Q : DV → Prop), wO (bi .list [.tuple xs]) Q = Q (.fr xs)) ∧
    (∀ i j (Q : DV → Prop), wO (bi .min [.int i, .int j]) Q = Q (.d (.int (if j < i then j else i)))) ∧ (∀ i j (Q : DV → Prop), wO (bi .max [.int i, .int j]) Q = Q (.d (.int (if j > i then j else i)))) ∧
    (∀ i j (Q : List D → Prop), wO (rngD [.int i, .int j]) Q = ((big i && big j) = true ∧ Q (rngI i (j - i).toNat))) ∧ (∀ j (Q : List D → Prop), wO (rngD [.int j]) Q = (big j = true ∧ Q (rngI 0 j.toNat))) := by
  refine ⟨fun _ _ => rfl, fun _ _ => rfl, fun _ _ => rfl, fun _ _ => rfl, fun _ _ => rfl, fun _ _ => rfl, fun _ _ => rfl, fun _ _ => rfl, fun _ _ => rfl, fun _ _ => rfl, fun _ _ _ => rfl, fun _ _ _ => rfl, fun _ _ _ => wO_ite, fun _ _ => wO_ite⟩
theorem at_any {xs : List D} {i : Int} (h0 : 0 ≤ i) (h1 : i < xs.length) {Q : D → Prop} (q : ∀ d ∈ xs, Q d) : wO (L2.atI xs i) Q := by
  have hj : i.toNat < xs.length := by omega
  have e : L2.atI xs i = some xs[i.toNat] := by
    have h := L2.atI_nat (xs := xs) (j := i.toNat) (v := xs[i.toNat]) (by simp [hj])
    rw [Int.toNat_of_nonneg h0] at h
    exact h
  rw [e, wO_some]
  exact q _ (List.getElem_mem hj)
theorem at_nat {xs : List D} {i : Int} {j : Nat} {d : D} (h : i = (j : Int)) (hd : xs[j]? = some d) {Q : D → Prop} : wO (L2.atI xs i) Q = Q d := by
  subst h
  rw [L2.atI_nat hd, wO_some]
theorem l0 : 0 ≤ lim := by decide
theorem l1 : 1 ≤ lim := by decide
theorem l2 : 2 ≤ lim := by decide
theorem l3 : 3 ≤ lim := by decide
theorem l4 : 4 ≤ lim := by decide
theorem big_of {i : Int} (h : -1000000000 ≤ i) (h2 : i ≤ 1000000000) : big i = true := by
  unfold big
  simp only [Bool.and_eq_true, decide_eq_true_eq]
  exact ⟨h, h2⟩
/-- data that == takes, n levels deep at most -/
def LayN (n : Nat) (d : D) : Prop := d.canLay0 = true ∧ d.depth ≤ n
theorem LayN.lay {n : Nat} {d : D} (h : LayN n d) (hn : n ≤ 64) : lay d = true := by
  unfold DL.lay SeqAt.shaped
  rw [Bool.and_eq_true]
  exact ⟨h.1, decide_eq_true (Nat.le_trans h.2 hn)⟩
theorem layN_all {n : Nat} : ∀ {xs : List D}, (∀ x ∈ xs, LayN n x) → PyData.canLayAll0 xs = true ∧ PyData.depthAll xs ≤ n
  | [], _ => ⟨rfl, Nat.zero_le _⟩
  | x :: xs, h => by
    obtain ⟨h1, h2⟩ := h x List.mem_cons_self
    obtain ⟨h3, h4⟩ := layN_all fun y hy => h y (List.mem_cons_of_mem _ hy)
    exact ⟨by simp only [PyData.canLayAll0, h1, h3, Bool.and_self], by simp only [PyData.depthAll]; omega⟩
theorem layN_tup {n : Nat} {xs : List D} (h : ∀ x ∈ xs, LayN n x) : LayN (n + 1) (.tuple xs) := by
  obtain ⟨h1, h2⟩ := layN_all h
  exact ⟨by simp only [PyData.canLay0, h1], by simp only [PyData.depth]; omega⟩
theorem layN_lst {n : Nat} {xs : List D} (h : ∀ x ∈ xs, LayN n x) : LayN (n + 1) (.list xs) := by
  obtain ⟨h1, h2⟩ := layN_all h
  exact ⟨by simp only [PyData.canLay0, h1], by simp only [PyData.depth]; omega⟩
theorem layN_int (n : Nat) (i : Int) : LayN n (.int i) := ⟨rfl, Nat.zero_le _⟩
theorem layN_none (n : Nat) : LayN n .none := ⟨rfl, Nat.zero_le _⟩
theorem layN_bool (n : Nat) (b : Bool) : LayN n (.bool b) := ⟨rfl, Nat.zero_le _⟩
theorem LayN.up {m n : Nat} {d : D} (h : LayN m d) (e : m ≤ n) : LayN n d := ⟨h.1, Nat.le_trans h.2 e⟩
mutual
theorem eqv_refl : ∀ (d : D), d.canLay0 = true → PyData.eqv d d = true
  | .none, _ => rfl
  | .bool b, _ => by simp [PyData.eqv]
  | .int i, _ => by simp [PyData.eqv]
  | .str x, _ => by simp [PyData.eqv]
  | .list xs, h => by
    simp only [PyData.canLay0] at h
    simp only [PyData.eqv]
    exact eqvAll_refl xs h
  | .tuple xs, h => by
    simp only [PyData.canLay0] at h
    simp only [PyData.eqv]
    exact eqvAll_refl xs h
  | .dict _, h => by simp only [PyData.canLay0] at h; cases h
theorem eqvAll_refl : ∀ (xs : List D), PyData.canLayAll0 xs = true → PyData.eqvAll xs xs = true
  | [], _ => rfl
  | x :: xs, h => by
    simp only [PyData.canLayAll0, Bool.and_eq_true] at h
    simp only [PyData.eqvAll, eqv_refl x h.1, eqvAll_refl xs h.2, Bool.and_self]
end
/-- == and != of data that is the same -/
theorem cmp_eq_self {n : Nat} {d : D} (h : LayN n d) (hn : n ≤ 64) (Q : Bool → Prop) : wO (cmp .eq d d) Q = Q true := by
  show wO (if lay d && lay d then some (PyData.eqv d d) else none) Q = _
  rw [h.lay hn, Bool.and_self, if_pos rfl, wO_some, eqv_refl d h.1]
theorem cmp_ne_self {n : Nat} {d : D} (h : LayN n d) (hn : n ≤ 64) (Q : Bool → Prop) : wO (cmp .ne d d) Q = Q false := by
  show wO (if lay d && lay d then some (!PyData.eqv d d) else none) Q = _
  rw [h.lay hn, Bool.and_self, if_pos rfl, wO_some, eqv_refl d h.1]
  rfl
theorem cmp_mem_ints (a : Int) (ns : List Int) (Q : Bool → Prop) : wO (cmp .mem (.int a) (.list (ns.map PyData.int))) Q = Q (decide (a ∈ ns)) := by
  have hl : LayN 1 (.list (ns.map PyData.int)) := layN_lst fun x hx => by
    obtain ⟨i, _, e⟩ := List.mem_map.mp hx
    subst e
    exact layN_int 0 i
  show wO (if lay (.int a) && lay (.list (ns.map PyData.int)) then some ((ns.map PyData.int).any fun z => PyData.eqv z (.int a)) else none) Q = _
  rw [lay_int, hl.lay (by decide), Bool.and_self, if_pos rfl, wO_some]
  congr 1
  induction ns with
  | nil => simp
  | cons n ns ih =>
    have ih := ih (layN_lst fun x hx => by
      obtain ⟨i, _, e⟩ := List.mem_map.mp hx
      subst e
      exact layN_int 0 i)
    rw [List.map_cons, List.any_cons, ih]
    simp only [PyData.eqv, List.mem_cons]
    by_cases h : n = a
    · subst h; simp
    · have h' : ¬ a = n := fun z => h z.symm
      simp [h, h']
/-- in a tuple of ints -/
theorem cmp_nmem_tup (a : Int) (ns : List Int) (Q : Bool → Prop) : wO (cmp .nmem (.int a) (.tuple (ns.map PyData.int))) Q = Q (!decide (a ∈ ns)) := by
  have hf : (ns.map PyData.int).all flat = true := by
    rw [List.all_eq_true]
    intro x hx
    obtain ⟨i, _, e⟩ := List.mem_map.mp hx
    subst e
    rfl
  show wO (if flat (.int a) && (ns.map PyData.int).all flat then some (!(ns.map PyData.int).any fun z => PyData.eqv z (.int a)) else if lay (.int a) && lay (.tuple (ns.map PyData.int)) then some (!(ns.map PyData.int).any fun z => PyData.eqv z (.int a)) else none) Q = _
  rw [hf, show flat (.int a) = true from rfl, Bool.and_self, if_pos rfl, wO_some]
  congr 2
  induction ns with
  | nil => simp
  | cons n ns ih =>
    have ih := ih (by rw [List.map_cons, List.all_cons, Bool.and_eq_true] at hf; exact hf.2)
    rw [List.map_cons, List.any_cons, ih]
    simp only [PyData.eqv, List.mem_cons]
    by_cases h : n = a
    · subst h; simp
    · have h' : ¬ a = n := fun z => h z.symm
      simp [h, h']
/-- a comprehension that keeps some of the items -/
theorem comp_sub {f : D → Env → R (Option D)} (I : Env → Prop) : ∀ (xs : List D) (e : Env), I e → (∀ x ∈ xs, ∀ e, I e → wR (f x e) (fun o e1 => I e1 ∧ (o = none ∨ o = some x)) noX) → wR (compGo f xs e) (fun ys e1 => I e1 ∧ ys.Sublist xs) noX
  | [], e, hi, _ => ⟨hi, .slnil⟩
  | x :: r, e, hi, s => by
    have s1 := s x List.mem_cons_self e hi
    show wR (match f x e with
      | .ok o e1 => match compGo f r e1 with
        | .ok ys e2 => R.ok (match o with | some y => y :: ys | none => ys) e2
        | _ => .bad
      | _ => .bad) _ noX
    cases hf : f x e with
    | bad => rw [hf] at s1; exact s1.elim
    | exn _ _ _ => rw [hf] at s1; exact s1.elim
    | ok o e1 =>
      rw [hf] at s1
      obtain ⟨h1, ey⟩ := s1
      have ih := comp_sub I r e1 h1 fun z hz => s z (List.mem_cons_of_mem _ hz)
      show wR (match compGo f r e1 with
        | .ok ys e2 => R.ok (match o with | some y => y :: ys | none => ys) e2
        | _ => .bad) _ noX
      cases hc : compGo f r e1 with
      | bad => rw [hc] at ih; exact ih.elim
      | exn _ _ _ => rw [hc] at ih; exact ih.elim
      | ok ys e2 =>
        rw [hc] at ih
        obtain ⟨i1, i2⟩ := ih
        refine ⟨i1, ?_⟩
        rcases ey with rfl | rfl
        · exact i2.cons _
        · exact i2.cons₂ _
/-! ### a body in two parts -/
def tk : Nat → Sxs → Sxs
  | 0, _ => .nil
  | _, .nil => .nil
  | n + 1, .cons s ss => .cons s (tk n ss)
def drp : Nat → Sxs → Sxs
  | 0, ss => ss
  | _, .nil => .nil
  | n + 1, .cons _ ss => drp n ss
theorem nxt_nxt {f : Env → Prop} {Q : RS → Prop} {r : RS} : nxt f (nxt f Q) r = nxt f Q r := by cases r <;> rfl
theorem split_at (G : List D) (Γ : List Fn) (Q : RS → Prop) : ∀ (n : Nat) (b : Sxs) (e : Env), wS (evSs G Γ b e) Q = wS (evSs G Γ (tk n b) e) (nxt (fun e1 => wS (evSs G Γ (drp n b) e1) Q) Q)
  | 0, b, e => by
    show _ = wS (evSs G Γ .nil e) _
    rw [(rS G Γ).1]
    cases b <;> rfl
  | n + 1, .nil, e => by
    show _ = wS (evSs G Γ .nil e) _
    rw [(rS G Γ).1, (rS G Γ).1]
    show _ = wS (evSs G Γ .nil e) Q
    rw [(rS G Γ).1]
  | n + 1, .cons s ss, e => by
    show _ = wS (evSs G Γ (.cons s (tk n ss)) e) (nxt (fun e1 => wS (evSs G Γ (drp n ss) e1) Q) Q)
    rw [(rS G Γ).2.1, (rS G Γ).2.1]
    congr 1
    funext r
    cases r with
    | nx e1 => exact split_at G Γ Q n ss e1
    | bk _ => rfl
    | ct _ => rfl
    | rt _ _ => rfl
    | exn _ _ _ => rfl
    | bad => rfl
end DL


set_option Elab.async false
set_option linter.all false
set_option maxRecDepth 100000
set_option maxHeartbeats 2000000
/-! DL27: comprehensions by their items alone. -/
namespace DL
open PySem
theorem wipeE_lenAt : ∀ (e : Env) (vs : List Nat) (i : Nat), (wipeE e vs)[i]? = if i ∈ vs then (e[i]?).map fun _ => Slot.un else e[i]?
  | e, [], i => by simp [wipeE]
  | e, v :: vs, i => by
    show ((wipeE e vs).set v .un)[i]? = _
    by_cases h : v = i
    · subst h
      rw [if_pos List.mem_cons_self]
      by_cases hl : v < e.length
      · rw [List.getElem?_set_self (by rw [wipeE_len]; exact hl), List.getElem?_eq_getElem hl]; rfl
      · rw [List.getElem?_eq_none (by rw [List.length_set, wipeE_len]; omega), List.getElem?_eq_none (by omega)]; rfl
    · rw [List.getElem?_set_ne h, wipeE_lenAt e vs i]
      by_cases h2 : i ∈ vs
      · rw [if_pos h2, if_pos (List.mem_cons_of_mem _ h2)]
      · rw [if_neg h2, if_neg (fun z => by rcases List.mem_cons.mp z with z | z; exact h z.symm; exact h2 z)]
theorem wipeE_wipeE (e : Env) (vs : List Nat) : wipeE (wipeE e vs) vs = wipeE e vs := by
  refine List.ext_getElem? fun i => ?_
  rw [wipeE_lenAt, wipeE_lenAt]
  split
  · cases e[i]? <;> rfl
  · rfl
theorem putBack_at {e0 e : Env} (hl : e0.length = e.length) : ∀ (vs : List Nat) (i : Nat), (putBack e0 e vs)[i]? = if i ∈ vs then e0[i]? else e[i]?
  | [], i => by simp [putBack]
  | v :: vs, i => by
    have ih := putBack_at hl vs i
    show (match e0[v]? with | some s => (putBack e0 e vs).set v s | none => putBack e0 e vs)[i]? = _
    have hlen : (putBack e0 e vs).length = e.length := putBack_len e0 e vs
    by_cases h : v = i
    · subst h
      rw [if_pos List.mem_cons_self]
      cases q : e0[v]? with
      | none =>
        have := List.getElem?_eq_none_iff.mp q
        show (putBack e0 e vs)[v]? = none
        exact List.getElem?_eq_none (by omega)
      | some s =>
        have := (List.getElem?_eq_some_iff.mp q).1
        show ((putBack e0 e vs).set v s)[v]? = some s
        exact List.getElem?_set_self (by omega)
    · have e2 : (match e0[v]? with | some s => (putBack e0 e vs).set v s | none => putBack e0 e vs)[i]? = (putBack e0 e vs)[i]? := by
        cases e0[v]? with
        | none => rfl
        | some s => exact List.getElem?_set_ne h
      rw [e2, ih]
      by_cases h2 : i ∈ vs
      · rw [if_pos h2, if_pos (List.mem_cons_of_mem _ h2)]
      · rw [if_neg h2, if_neg (fun z => by rcases List.mem_cons.mp z with z | z; exact h z.symm; exact h2 z)]
theorem putBack_wiped {e0 e e1 : Env} {vs : List Nat} (h : wipeE e vs = wipeE e1 vs) (hv : ∀ i ∈ vs, e0[i]? = e1[i]?) (hl : e0.length = e1.length) : putBack e0 e vs = e1 := by
  have l : e.length = e1.length := by rw [← wipeE_len e vs, h, wipeE_len]
  refine List.ext_getElem? fun i => ?_
  rw [putBack_at (by omega)]
  by_cases hi : i ∈ vs
  · rw [if_pos hi, hv i hi]
  · rw [if_neg hi]
    have q := congrArg (fun z : Env => z[i]?) h
    simp only [wipeE_lenAt, if_neg hi] at q
    exact q
section
variable {G : List D} {Γ : List Fn} {x0 : Ex} {vs : List Nat} {g : Tg} {c : Op} {e1 : Env} {xs : List D} {T : List D → Env → Prop}
theorem bodyC_wipe {z : D} {e : Env} (h : wipeE e vs = wipeE e1 vs) : bodyC G Γ x0 vs g c z e = bodyC G Γ x0 vs g c z (wipeE e1 vs) := by
  unfold bodyC
  rw [h, wipeE_wipeE]
/-- a comprehension whose turns change nothing but its own names -/
theorem comp_pure (h : D → Option D) (hp : plainAt e1 vs = true) (step : ∀ x ∈ xs, wR (bodyC G Γ x0 vs g c x (wipeE e1 vs)) (fun o e2 => wipeE e2 vs = wipeE e1 vs ∧ o = h x) noX)
    (q : ∀ e6, putBack e1 e6 vs = e1 → T (xs.filterMap h) e6) : plainAt e1 vs = true ∧ wR (compGo (bodyC G Γ x0 vs g c) xs (wipeE e1 vs)) T noX := by
  refine ⟨hp, wR.imp (comp_fm (fun e => wipeE e vs = wipeE e1 vs) h xs _ (wipeE_wipeE e1 vs) fun x hx e he => ?_) (fun ys e z => ?_) fun _ _ _ z => z⟩
  · rw [bodyC_wipe he]
    exact step x hx
  · obtain ⟨z1, rfl⟩ := z
    exact q e (putBack_wiped z1 (fun _ _ => rfl) rfl)
/-- .. that draw from a list of one's own at slot i -/
theorem comp_own (i : Nat) {p : Bool} {o0 : List D} (J : List D → Prop) (P : D → D → Prop) (hp : plainAt e1 vs = true) (h0 : e1 = e1.set i (.own p o0)) (hi : i ∉ vs) (j0 : J o0)
    (step : ∀ x ∈ xs, ∀ o, J o → wR (bodyC G Γ x0 vs g c x (wipeE (e1.set i (.own p o)) vs)) (fun r e2 => (∃ o', J o' ∧ wipeE e2 vs = wipeE (e1.set i (.own p o')) vs) ∧ ∃ y, r = some y ∧ P x y) noX)
    (q : ∀ ys o e6, All2 P xs ys → J o → putBack e1 e6 vs = e1.set i (.own p o) → T ys e6) : plainAt e1 vs = true ∧ wR (compGo (bodyC G Γ x0 vs g c) xs (wipeE e1 vs)) T noX := by
  refine ⟨hp, wR.imp (comp_all (fun e => ∃ o, J o ∧ wipeE e vs = wipeE (e1.set i (.own p o)) vs) P xs _ ⟨o0, j0, by rw [wipeE_wipeE, ← h0]⟩ fun x hx e he => ?_) (fun ys e z => ?_) fun _ _ _ z => z⟩
  · obtain ⟨o, jo, he⟩ := he
    rw [bodyC_wipe he]
    exact step x hx o jo
  · obtain ⟨⟨o, jo, z1⟩, z2⟩ := z
    exact q ys o e z2 jo (putBack_wiped z1 (fun k hk => by rw [List.getElem?_set_ne (fun y => hi (by rw [y]; exact hk))]) (by rw [List.length_set]))
/-- .. some left out -/
theorem comp_ownF (i : Nat) {p : Bool} {o0 : List D} (J : List D → Prop) (hp : plainAt e1 vs = true) (h0 : e1 = e1.set i (.own p o0)) (hi : i ∉ vs) (j0 : J o0)
    (step : ∀ x ∈ xs, ∀ o, J o → wR (bodyC G Γ x0 vs g c x (wipeE (e1.set i (.own p o)) vs)) (fun r e2 => (∃ o', J o' ∧ wipeE e2 vs = wipeE (e1.set i (.own p o')) vs) ∧ (r = none ∨ r = some x)) noX)
    (q : ∀ ys o e6, ys.Sublist xs → J o → putBack e1 e6 vs = e1.set i (.own p o) → T ys e6) : plainAt e1 vs = true ∧ wR (compGo (bodyC G Γ x0 vs g c) xs (wipeE e1 vs)) T noX := by
  refine ⟨hp, wR.imp (comp_sub (fun e => ∃ o, J o ∧ wipeE e vs = wipeE (e1.set i (.own p o)) vs) xs _ ⟨o0, j0, by rw [wipeE_wipeE, ← h0]⟩ fun x hx e he => ?_) (fun ys e z => ?_) fun _ _ _ z => z⟩
  · obtain ⟨o, jo, he⟩ := he
    rw [bodyC_wipe he]
    exact step x hx o jo
  · obtain ⟨⟨o, jo, z1⟩, z2⟩ := z
    exact q ys o e z2 jo (putBack_wiped z1 (fun k hk => by rw [List.getElem?_set_ne (fun y => hi (by rw [y]; exact hk))]) (by rw [List.length_set]))
end
end DL
namespace DL
open PySem
/-- sorted by a lambda's key -/
theorem rL {G : List D} {Γ : List Fn} : (∀ a i e Q X, wR (evE G Γ (.skey a i) e) Q X = wR (evE G Γ a e) (fun x e1 => sV e1 i fun y => asInt y fun w => wO (sortK w x.fz) fun v => Q v e1) X) := fun a i e Q X => by
  show wR ((evE G Γ a e).bind fun x e1 => match e1[i]? with | some (.val (.int w)) => toR (sortK w x.fz) e1 | _ => .bad) Q X = _
  cases q : evE G Γ a e with
  | bad => rfl
  | exn c ps e1 => rfl
  | ok x e1 =>
    show wR (match e1[i]? with | some (.val (.int w)) => toR (sortK w x.fz) e1 | _ => .bad) Q X = sV e1 i fun y => asInt y fun w => wO (sortK w x.fz) fun v => Q v e1
    unfold sV
    cases k : e1[i]? with
    | none => rfl
    | some s => cases s with
      | val d => cases d with
        | int w =>
          show wR (toR (sortK w x.fz) e1) Q X = wO (sortK w x.fz) fun v => Q v e1
          cases sortK w x.fz <;> rfl
        | _ => rfl
      | _ => rfl
/-- looks at lists of one's own; copies of them -/
theorem rP {G : List D} {Γ : List Fn} : (∀ a e Q X, wR (evE G Γ (.peek a) e) Q X = wR (evE G Γ a (e.map Slot.fz)) (fun x _ => flat x.fz = true ∧ Q (.d x.fz) e) fun c ps _ => ps = [] ∧ X c ps e) ∧
    (∀ i e Q X, wR (evE G Γ (.olst i) e) Q X = sO e i fun _ xs => Q (.fr xs) e) := by
  refine ⟨fun a e Q X => ?_, fun i e Q X => ?_⟩
  · show wR (match evE G Γ a (e.map Slot.fz) with
      | .ok x _ => if flat x.fz then R.ok (DV.d x.fz) e else .bad
      | .exn c [] _ => .exn c [] e
      | _ => .bad) Q X = _
    cases evE G Γ a (e.map Slot.fz) with
    | bad => rfl
    | exn c ps e1 =>
      cases ps with
      | nil => show X c [] e = (([] : List D) = [] ∧ X c [] e); simp
      | cons p ps => show False = (p :: ps = [] ∧ X c (p :: ps) e); simp
    | ok x e1 =>
      show wR (if flat x.fz then R.ok (DV.d x.fz) e else .bad) Q X = (flat x.fz = true ∧ Q (.d x.fz) e)
      by_cases h : flat x.fz = true
      · rw [if_pos h]; simp [h, wR]
      · rw [if_neg h]; simp [h, wR]
  · show wR (match e[i]? with | some (.own _ xs) => R.ok (DV.fr xs) e | _ => .bad) Q X = _
    unfold sO
    cases e[i]? with
    | none => rfl
    | some s => cases s <;> rfl
theorem rQ : (∀ e, (Slot.un :: e).map Slot.fz = .un :: e.map Slot.fz) ∧ (∀ x e, (Slot.val x :: e).map Slot.fz = .val x :: e.map Slot.fz) ∧ (∀ p xs e, (Slot.own p xs :: e).map Slot.fz = .val (.list xs) :: e.map Slot.fz) ∧ (([] : Env).map Slot.fz = []) ∧
    (∀ b, flat (.bool b) = true) ∧ (∀ i, flat (.int i) = true) ∧ flat .none = true ∧ (∀ s, flat (.str s) = true) :=
  ⟨fun _ => rfl, fun _ _ => rfl, fun _ _ _ => rfl, rfl, fun _ => rfl, fun _ => rfl, rfl, fun _ => rfl⟩
/-- .. of exceptions made and kept -/
theorem rM (G : List D) (Γ : List Fn) : (∀ c es e Q X, wR (evE G Γ (.mkx c es) e) Q X = wR (evEs G Γ es e) (fun _ e1 => Q (.d (exD c [])) e1) X) ∧
    (∀ c kw a e Q X, wR (evE G Γ (.mk1 c kw a) e) Q X = wR (evE G Γ a e) (fun x e1 => Q (.d (exD c [x.fz])) e1) X) ∧
    (∀ a f e Q X, wR (evE G Γ (.fld a f) e) Q X = wR (evE G Γ a e) (fun x e1 => wO (fldD f x.fz) fun d => Q (.d d) e1) X) := by
  refine ⟨fun c es e Q X => ?_, fun c kw a e Q X => ?_, fun a f e Q X => ?_⟩
  · show wR ((evEs G Γ es e).bind fun xs e1 => R.ok (.d (exD c [])) e1) Q X = _
    rw [wR_bind]
    rfl
  · show wR ((evE G Γ a e).bind fun x e1 => R.ok (.d (exD c [x.fz])) e1) Q X = _
    rw [wR_bind]
    rfl
  · show wR ((evE G Γ a e).bind fun x e1 => toR ((fldD f x.fz).map .d) e1) Q X = _
    simp only [wR_bind, wR_toR, wO_map]
end DL


set_option Elab.async false
set_option linter.all false
set_option maxRecDepth 100000
set_option maxHeartbeats 2000000
/-! DLW: the end of a law whose defs make lambdas. -/
namespace DL
open PySem PySem.Spec PyProof.Rows L2

/-- the walk, its fragment told with the head's heap -/
theorem walk_ofTE {l : PySem.W.OpenLaw} {n k : Nat} {q : Program} {loose : List Str} {XP : (Str → Option Value) → Heap → Prop} {YP : World → Heap → Prop} {d : DefRec} {CX : World → CXT} {x : Str}
    (mst : l.most = some n) (few : n ≤ sizeLine) (nodf : d.params.defaults = []) (room : Room k callerA)
    (F : ∀ (w : World) (mg : Str → Option Value) (fa : Addr) (h : Heap), YP w h → h.Ns mainGlobals mg → mg d.name = some (.ref fa) → ∃ K : PySem.W.Frag, K.In h ∧ LamX.LawAtS l w K (CX w) k n x mg fa h)
    (quiet : ∀ (w : World) (H : Hp) (s : Shared) (e : Value) (s' : Shared), CX w [] H s (fun _ _ _ => False) e s' → False) :
    PySem.W.WalkO q loose XP YP l.row.toRowW d [] (fun f vs => PySem.call f vs) := by
  refine Att.attach_callB mst nodf fun w s0 s1 mg mb fa o pm cd doc a vs ns G Y e1 e2 e3 e4 e5 e6 e7 e8 e9 => ?_
  obtain ⟨K, KX, fd, cs, sp, t1, t2, t3, t4, t5, t6⟩ := F w mg fa _ Y G.T.g e4
  exact LamX.law_callTs KX G.T.g G.T.b G.T.builtins G.T.nolimit e9 t1 t2 t3 G.T.bmain e5 e6 (Nat.le_trans e7 few) room t6 t4 (fun H hH hS => t5 H a ns e7 e8 hH hS) fun H e s' => quiet w H s1 e s'
/-- the hypothesis of the one def that makes a lambda -/
def LamHyp (K : PySem.W.Frag) (mg : Str → Option Value) (base : Heap) (T : List (Addr × Str)) (x : Str) : Prop := ∀ (params : Arguments) (body : List Stmt) (sc : Scope) (fd : FuncData), FunD K x x params body sc [] [] (He.fAd K (x, none)) fd → LamFd base mg T x fd
def lamT (P : Addr) (x : Str) : List (Addr × Str) := [(P, (x ++ ".<locals>.") ++ "<lambda>")]
theorem lamHyp_of {K : PySem.W.Frag} {mg : Str → Option Value} {base h : Heap} {x : Str} {c P : Addr} (t : TabOk K h x c P) (B : LamX.TabB base mg c P) : LamHyp K mg base (lamT P x) x := fun params body sc fd F => by
  obtain ⟨oc, od, dV, kV, doc, pm, an, cdv, ct, osl, rfl, lk, _⟩ := F.ex
  exact ⟨c, P, t.fn _ oc od osl lk, B, List.mem_cons_self, fun p hp _ => by rw [List.mem_singleton.mp hp]⟩
theorem lamT_tabs {P : Addr} {x : Str} {H : Hp} (h : H P = some (.tbl #[])) : LamX.Tabs (lamT P x) H := fun p hp => by
  rw [List.mem_singleton.mp hp]
  exact LamX.TabS.nil h
end DL


set_option Elab.async false
set_option linter.all false
set_option maxRecDepth 100000
set_option maxHeartbeats 0
namespace K06
open PySem PySem.Spec PyProof.Rows L2 DL
/-! _law_pile(script, k) -/
def c__law_pile : Cf := ⟨["script", "k", "cell", "digits"], [], [], [], [], [], false, []⟩
def b__law_pile : Sxs := (.cons (.asg (.nm 2) (.lit (.int 0)))
    (.cons (.ife (.cmp .lt (.v 1) (.bi .len (.cons (.v 0) .nil))) (.cons (.asg (.nm 2) (.ix (.v 0) (.v 1)))
    .nil) .nil)
    (.cons (.asg (.nm 3) (.ix (.lst (.cons (.lit (.int 0)) (.cons (.bin .mod (.v 2) (.bin .mul (.bin .mul (.bin .pow (.lit (.int 10)) (.lit (.int 50))) (.bin .pow (.lit (.int 10)) (.lit (.int 50)))) (.bin .pow (.lit (.int 10)) (.lit (.int 50))))) .nil))) (.bi .int (.cons (.cmp .ge (.bi .abs (.cons (.v 2) .nil)) (.bin .pow (.lit (.int 10)) (.lit (.int 18)))) .nil))))
    (.cons (.ret (.lst (.cons (.v 3) (.cons (.bin .mod (.v 2) (.lit (.int 2147483647))) (.cons (.bin .mul (.lit (.int 97)) (.v 1)) (.cons (.cmp .lt (.v 1) (.lit (.int 2))) .nil))))))
    .nil))))
def g__law_pile : List D := []
def f__law_pile : Fn := ⟨"_law_pile", false, 2, evF g__law_pile [] false 4 b__law_pile⟩
theorem k__law_pile : ckSs c__law_pile (defScope (top 24)) b__law_pile (defBody (top 24)) = true := by decide +kernel
theorem s__law_pile : FnScope c__law_pile.N ["script", "k"] (defScope (top 24)) := ⟨rfl, rfl, rfl, by decide +kernel, rfl, by decide +kernel, by decide +kernel⟩
/-! _law_bare(word) -/
def c__law_bare : Cf := ⟨["word"], [], [], ["NoYard", "NoStanding", "NoLeap", "NoRow", "NoVector", "NoReading", "NoWishes"], [], [], false, []⟩
def b__law_bare : Sxs := (.cons (.ret (.lst (.cons (.mkx "NoYard" (.cons (.v 0) .nil)) (.cons (.mkx "NoStanding" (.cons (.v 0) .nil)) (.cons (.mkx "NoLeap" (.cons (.v 0) .nil)) (.cons (.mkx "NoRow" (.cons (.v 0) .nil)) (.cons (.mkx "NoVector" (.cons (.v 0) .nil)) (.cons (.mkx "NoReading" (.cons (.v 0) .nil)) (.cons (.mkx "NoWishes" (.cons (.v 0) .nil)) .nil)))))))))
    .nil)
def g__law_bare : List D := []
def f__law_bare : Fn := ⟨"_law_bare", false, 1, evF g__law_bare [] false 1 b__law_bare⟩
theorem k__law_bare : ckSs c__law_bare (defScope (top 28)) b__law_bare (defBody (top 28)) = true := by decide +kernel
theorem s__law_bare : FnScope c__law_bare.N ["word"] (defScope (top 28)) := ⟨rfl, rfl, rfl, by decide +kernel, rfl, by decide +kernel, by decide +kernel⟩
/-! _law_all(word) -/
def c__law_all : Cf := ⟨["word", "some"], [], ["_law_bare"], ["NoYard", "NoStanding", "NoLeap", "NoRow", "NoVector", "NoReading", "NoWishes", "NoCell", "NoTable", "NoNumber"], [], [], false, []⟩
def b__law_all : Sxs := (.cons (.asg (.nm 1) (.lst (.cons (.mkx "NoYard" .nil) (.cons (.mkx "NoStanding" .nil) (.cons (.mkx "NoLeap" .nil) (.cons (.mkx "NoRow" .nil) (.cons (.mkx "NoVector" .nil) (.cons (.mkx "NoReading" .nil) (.cons (.mkx "NoWishes" .nil) (.cons (.mkx "NoCell" .nil) (.cons (.mkx "NoTable" .nil) .nil)))))))))))
    (.cons (.ret (.lst (.cons (.bin .add (.v 1) (.lst (.cons (.mkx "NoNumber" .nil) .nil))) (.cons (.bin .add (.call 0 (.cons (.v 0) .nil)) (.lst (.cons (.mkx "NoCell" (.cons (.v 0) .nil)) (.cons (.mkx "NoTable" (.cons (.v 0) .nil)) (.cons (.mkx "NoNumber" (.cons (.v 0) .nil)) .nil))))) .nil))))
    .nil))
def g__law_all : List D := []
def f__law_all : Fn := ⟨"_law_all", false, 1, evF g__law_all [f__law_bare] false 2 b__law_all⟩
theorem k__law_all : ckSs c__law_all (defScope (top 29)) b__law_all (defBody (top 29)) = true := by decide +kernel
theorem s__law_all : FnScope c__law_all.N ["word"] (defScope (top 29)) := ⟨rfl, rfl, rfl, by decide +kernel, rfl, by decide +kernel, by decide +kernel⟩
/-! _law_mixed(cell, k) -/
def c__law_mixed : Cf := ⟨["cell", "k", "number"], [], [], [], [], [], false, []⟩
def b__law_mixed : Sxs := (.cons (.asg (.nm 2) (.bin .mod (.bin .add (.bin .add (.bin .mul (.bin .mod (.v 0) (.lit (.int 2147483647))) (.lit (.int 48271))) (.bin .mul (.v 1) (.lit (.int 69621)))) (.lit (.int 11))) (.lit (.int 2147483647))))
    (.cons (.asg (.nm 2) (.bin .mod (.bin .mul (.v 2) (.v 2)) (.lit (.int 2147483629))))
    (.cons (.ret (.bin .fdiv (.bin .mod (.bin .mul (.v 2) (.v 2)) (.lit (.int 2147483587))) (.lit (.int 64))))
    .nil)))
def g__law_mixed : List D := []
def f__law_mixed : Fn := ⟨"_law_mixed", false, 2, evF g__law_mixed [] false 3 b__law_mixed⟩
theorem k__law_mixed : ckSs c__law_mixed (defScope (top 23)) b__law_mixed (defBody (top 23)) = true := by decide +kernel
theorem s__law_mixed : FnScope c__law_mixed.N ["cell", "k"] (defScope (top 23)) := ⟨rfl, rfl, rfl, by decide +kernel, rfl, by decide +kernel, by decide +kernel⟩
/-! _law_take(pile, many) -/
def c__law_take : Cf := ⟨["pile", "many", "digit"], [], ["_law_mixed"], [], [], [], false, []⟩
def b__law_take : Sxs := (.cons (.ife (.cmp .mem (.oix 0 (.lit (.int 0))) (.lst (.cons (.lit (.int 0)) (.cons (.neg (.lit (.int 1))) .nil)))) (.cons (.seti 0 (.lit (.int 2)) (.bin .add (.oix 0 (.lit (.int 2))) (.lit (.int 1))))
    (.cons (.ret (.bin .mod (.call 0 (.cons (.oix 0 (.lit (.int 1))) (.cons (.oix 0 (.lit (.int 2))) .nil))) (.v 1)))
    .nil)) .nil)
    (.cons (.asg (.nm 2) (.bin .mod (.oix 0 (.lit (.int 0))) (.v 1)))
    (.cons (.seti 0 (.lit (.int 0)) (.bin .fdiv (.oix 0 (.lit (.int 0))) (.v 1)))
    (.cons (.ret (.v 2))
    .nil))))
def g__law_take : List D := []
def f__law_take : Fn := ⟨"_law_take", true, 2, evF g__law_take [f__law_mixed] true 3 b__law_take⟩
theorem k__law_take : ckSs c__law_take (defScope (top 25)) b__law_take (defBody (top 25)) = true := by decide +kernel
theorem s__law_take : FnScope c__law_take.N ["pile", "many"] (defScope (top 25)) := ⟨rfl, rfl, rfl, by decide +kernel, rfl, by decide +kernel, by decide +kernel⟩
/-! _law_kind(e) -/
def c__law_kind : Cf := ⟨["e", "some", "words", "word", "truth"], [], [], [], ["NoYard", "NoStanding", "NoLeap", "NoRow", "NoVector", "NoReading", "NoWishes", "NoCell", "NoTable", "NoNumber", "NoPerson", "TooMany", "FolkError", "ValueError"], [], false, []⟩
def b__law_kind : Sxs := (.cons (.asg (.nm 1) (.lst (.cons (.isx (.v 0) "NoYard") (.cons (.isx (.v 0) "NoStanding") (.cons (.isx (.v 0) "NoLeap") (.cons (.isx (.v 0) "NoRow") .nil))))))
    (.cons (.asg (.nm 1) (.bin .add (.v 1) (.lst (.cons (.isx (.v 0) "NoVector") (.cons (.isx (.v 0) "NoReading") (.cons (.isx (.v 0) "NoWishes") (.cons (.isx (.v 0) "NoCell") .nil)))))))
    (.cons (.asg (.nm 1) (.bin .add (.v 1) (.lst (.cons (.isx (.v 0) "NoTable") (.cons (.isx (.v 0) "NoNumber") (.cons (.isx (.v 0) "NoPerson") (.cons (.isx (.v 0) "TooMany") .nil)))))))
    (.cons (.asg (.nm 2) (.lst (.cons (.lit (.str "yard")) (.cons (.lit (.str "standing")) (.cons (.lit (.str "leap")) (.cons (.lit (.str "row")) (.cons (.lit (.str "vector")) (.cons (.lit (.str "reading")) (.cons (.lit (.str "wishes")) (.cons (.lit (.str "cell")) (.cons (.lit (.str "table")) (.cons (.lit (.str "number")) (.cons (.lit (.str "person")) .nil)))))))))))))
    (.cons (.ife (.and (.cmp .notn (.v 0) (.lit .none)) (.or (.no (.isx (.v 0) "FolkError")) (.no (.isx (.v 0) "ValueError")))) (.cons (.ret (.lst (.cons (.lit (.str "odd")) .nil)))
    .nil) .nil)
    (.cons (.ret (.comp (.v 3) [3, 4] (.tp [(.nm 3), (.nm 4)]) (.zip false (.cons (.bin .add (.v 2) (.lst (.cons (.lit (.str "many")) .nil))) (.cons (.v 1) .nil))) (.som (.v 4))))
    .nil))))))
def g__law_kind : List D := []
def f__law_kind : Fn := ⟨"_law_kind", false, 1, evF g__law_kind [] false 5 b__law_kind⟩
theorem k__law_kind : ckSs c__law_kind (defScope (top 27)) b__law_kind (defBody (top 27)) = true := by decide +kernel
theorem s__law_kind : FnScope c__law_kind.N ["e"] (defScope (top 27)) := ⟨rfl, rfl, rfl, by decide +kernel, rfl, by decide +kernel, by decide +kernel⟩
/-! _law_great(pile) -/
def c__law_great : Cf := ⟨["pile"], [], ["_law_take"], [], [], [], false, []⟩
def b__law_great : Sxs := (.cons (.ret (.bin .add (.bin .mul (.callo 0 0 (.cons (.bin .pow (.lit (.int 10)) (.lit (.int 5))) .nil)) (.bin .pow (.lit (.int 10)) (.lit (.int 5)))) (.callo 0 0 (.cons (.bin .pow (.lit (.int 10)) (.lit (.int 5))) .nil))))
    .nil)
def g__law_great : List D := []
def f__law_great : Fn := ⟨"_law_great", true, 1, evF g__law_great [f__law_take] true 1 b__law_great⟩
theorem k__law_great : ckSs c__law_great (defScope (top 26)) b__law_great (defBody (top 26)) = true := by decide +kernel
theorem s__law_great : FnScope c__law_great.N ["pile"] (defScope (top 26)) := ⟨rfl, rfl, rfl, by decide +kernel, rfl, by decide +kernel, by decide +kernel⟩
/-! is_whole(thing) -/
def c_is_whole : Cf := ⟨["thing"], [], [], [], [], [], false, []⟩
def b_is_whole : Sxs := (.cons (.ret (.and (.bi (.isi .int) (.cons (.v 0) .nil)) (.no (.bi (.isi .bool) (.cons (.v 0) .nil)))))
    .nil)
def g_is_whole : List D := []
def f_is_whole : Fn := ⟨"is_whole", false, 1, evF g_is_whole [] false 1 b_is_whole⟩
theorem k_is_whole : ckSs c_is_whole (defScope (top 17)) b_is_whole (defBody (top 17)) = true := by decide +kernel
theorem s_is_whole : FnScope c_is_whole.N ["thing"] (defScope (top 17)) := ⟨rfl, rfl, rfl, by decide +kernel, rfl, by decide +kernel, by decide +kernel⟩
/-! are_ways(thing) -/
def c_are_ways : Cf := ⟨["thing", "size"], ["MOST_WAYS"], ["is_whole"], [], [], [], false, []⟩
def b_are_ways : Sxs := (.cons (.ife (.or (.no (.bi (.isi .tuple) (.cons (.v 0) .nil))) (.no (.chn .le .le (.lit (.int 1)) (.bi .len (.cons (.v 0) .nil)) (.gl 0)))) (.cons (.ret (.lit (.bool false)))
    .nil) .nil)
    (.cons (.ret (.bi .all (.cons (.comp (.and (.call 0 (.cons (.v 1) .nil)) (.or (.cmp .eq (.v 1) (.lit (.int 0))) (.cmp .ge (.v 1) (.lit (.int 2))))) [1] (.nm 1) (.seq (.v 0)) .non) .nil)))
    .nil))
def g_are_ways : List D := [.int 3]
def f_are_ways : Fn := ⟨"are_ways", false, 1, evF g_are_ways [f_is_whole] false 2 b_are_ways⟩
theorem k_are_ways : ckSs c_are_ways (defScope (top 18)) b_are_ways (defBody (top 18)) = true := by decide +kernel
theorem s_are_ways : FnScope c_are_ways.N ["thing"] (defScope (top 18)) := ⟨rfl, rfl, rfl, by decide +kernel, rfl, by decide +kernel, by decide +kernel⟩
/-! are_persons(thing) -/
def c_are_persons : Cf := ⟨["thing"], ["MOST_PERSONS"], ["is_whole"], [], [], [], false, []⟩
def b_are_persons : Sxs := (.cons (.ret (.and (.call 0 (.cons (.v 0) .nil)) (.chn .le .le (.lit (.int 2)) (.v 0) (.gl 0))))
    .nil)
def g_are_persons : List D := [.int 6]
def f_are_persons : Fn := ⟨"are_persons", false, 1, evF g_are_persons [f_is_whole] false 1 b_are_persons⟩
theorem k_are_persons : ckSs c_are_persons (defScope (top 19)) b_are_persons (defBody (top 19)) = true := by decide +kernel
theorem s_are_persons : FnScope c_are_persons.N ["thing"] (defScope (top 19)) := ⟨rfl, rfl, rfl, by decide +kernel, rfl, by decide +kernel, by decide +kernel⟩
/-! are_posts(persons, thing) -/
def c_are_posts : Cf := ⟨["persons", "thing", "post", "one", "other"], [], ["is_whole"], [], [], [], false, []⟩
def b_are_posts : Sxs := (.cons (.ife (.or (.no (.bi (.isi .tuple) (.cons (.v 1) .nil))) (.cmp .ge (.bi .len (.cons (.v 1) .nil)) (.v 0))) (.cons (.ret (.lit (.bool false)))
    .nil) .nil)
    (.cons (.ife (.no (.bi .all (.cons (.comp (.and (.call 0 (.cons (.v 2) .nil)) (.chn .le .lt (.lit (.int 0)) (.v 2) (.v 0))) [2] (.nm 2) (.seq (.v 1)) .non) .nil))) (.cons (.ret (.lit (.bool false)))
    .nil) .nil)
    (.cons (.ret (.bi .all (.cons (.comp (.cmp .lt (.v 3) (.v 4)) [3, 4] (.tp [(.nm 3), (.nm 4)]) (.zip false (.cons (.v 1) (.cons (.sl (.v 1) (.som (.lit (.int 1))) .non) .nil))) .non) .nil)))
    .nil)))
def g_are_posts : List D := []
def f_are_posts : Fn := ⟨"are_posts", false, 2, evF g_are_posts [f_is_whole] false 5 b_are_posts⟩
theorem k_are_posts : ckSs c_are_posts (defScope (top 20)) b_are_posts (defBody (top 20)) = true := by decide +kernel
theorem s_are_posts : FnScope c_are_posts.N ["persons", "thing"] (defScope (top 20)) := ⟨rfl, rfl, rfl, by decide +kernel, rfl, by decide +kernel, by decide +kernel⟩
/-! yard_wrong(thing) -/
def c_yard_wrong : Cf := ⟨["thing"], [], ["are_ways", "are_persons", "are_posts"], [], [], [], false, []⟩
def b_yard_wrong : Sxs := (.cons (.ife (.or (.no (.bi (.isi .tuple) (.cons (.v 0) .nil))) (.cmp .ne (.bi .len (.cons (.v 0) .nil)) (.lit (.int 3)))) (.cons (.ret (.tup (.cons (.lit (.str "yard")) .nil)))
    .nil) .nil)
    (.cons (.ife (.no (.call 0 (.cons (.ix (.v 0) (.lit (.int 0))) .nil))) (.cons (.ret (.tup (.cons (.lit (.str "ways")) .nil)))
    .nil) .nil)
    (.cons (.ife (.no (.call 1 (.cons (.ix (.v 0) (.lit (.int 1))) .nil))) (.cons (.ret (.tup (.cons (.lit (.str "persons")) .nil)))
    .nil) .nil)
    (.cons (.ret (.ife (.call 2 (.cons (.ix (.v 0) (.lit (.int 1))) (.cons (.ix (.v 0) (.lit (.int 2))) .nil))) (.lit .none) (.tup (.cons (.lit (.str "posts")) .nil))))
    .nil))))
def g_yard_wrong : List D := []
def f_yard_wrong : Fn := ⟨"yard_wrong", false, 1, evF g_yard_wrong [f_are_ways, f_are_persons, f_are_posts] false 1 b_yard_wrong⟩
theorem k_yard_wrong : ckSs c_yard_wrong (defScope (top 21)) b_yard_wrong (defBody (top 21)) = true := by decide +kernel
theorem s_yard_wrong : FnScope c_yard_wrong.N ["thing"] (defScope (top 21)) := ⟨rfl, rfl, rfl, by decide +kernel, rfl, by decide +kernel, by decide +kernel⟩
/-! law(script) -/
def c_law : Cf := ⟨["script", "words", "kept_ones", "k", "pile", "some", "number", "thing", "other", "two", "one", "word"], [], ["_law_pile", "_law_all", "_law_take", "_law_kind", "_law_great", "yard_wrong"], ["FolkError"], [], [], false, ["NoPerson", "TooMany"]⟩
def b_law : Sxs := (.cons (.asg (.nm 1) (.lst (.cons (.lit (.str "yard")) (.cons (.lit (.str "standing")) (.cons (.lit (.str "leap")) (.cons (.lit (.str "row")) (.cons (.lit (.str "vector")) (.cons (.lit (.str "reading")) (.cons (.lit (.str "wishes")) (.cons (.lit (.str "cell")) (.cons (.lit (.str "table")) (.cons (.lit (.str "number")) .nil))))))))))))
    (.cons (.own 2 (.lst .nil))
    (.cons (.for_ (.nm 3) (.rng (.cons (.lit (.int 8)) .nil)) (.cons (.own 4 (.call 0 (.cons (.v 0) (.cons (.v 3) .nil))))
    (.cons (.for_ (.nm 5) (.seq (.call 1 (.cons (.bin .add (.lit (.str "word ")) (.bi .stri (.cons (.callo 2 4 (.cons (.lit (.int 1000)) .nil)) .nil))) .nil))) (.cons (.ife (.cmp .ne (.comp (.call 3 (.cons (.v 10) .nil)) [10] (.nm 10) (.seq (.v 5)) .non) (.comp (.lst (.cons (.v 11) .nil)) [11] (.nm 11) (.seq (.v 1)) .non)) (.cons (.ret (.lit (.bool false)))
    .nil) .nil)
    .nil))
    (.cons (.asg (.nm 6) (.callo 4 4 .nil))
    (.cons (.asg (.nm 7) (.ix (.lst (.cons (.v 6) (.cons (.lit .none) (.cons (.lit (.str "a")) (.cons (.tup (.cons (.v 6) (.cons (.lit (.int 0)) .nil))) (.cons (.bin .sub (.lit (.int 0)) (.v 6)) (.cons (.lit (.bool true)) .nil))))))) (.callo 2 4 (.cons (.lit (.int 6)) .nil))))
    (.cons (.asg (.nm 8) (.ix (.lst (.cons (.v 6) (.cons (.lit .none) (.cons (.lit (.str "b")) (.cons (.tup (.cons (.lit (.int 0)) (.cons (.v 6) .nil))) (.cons (.bin .sub (.lit (.int 0)) (.v 6)) (.cons (.lit (.bool false)) .nil))))))) (.callo 2 4 (.cons (.lit (.int 6)) .nil))))
    (.cons (.asg (.nm 9) (.lst (.cons (.mk1 "NoPerson" false (.v 7)) (.cons (.mk1 "NoPerson" true (.v 7)) (.cons (.mk1 "TooMany" false (.v 8)) (.cons (.mk1 "TooMany" true (.v 8)) .nil))))))
    (.cons (.app 2 (.tup (.cons (.v 7) (.cons (.v 8) (.cons (.v 9) .nil)))))
    (.cons (.ife (.cmp .ne (.comp (.call 3 (.cons (.v 10) .nil)) [10] (.nm 10) (.seq (.v 9)) .non) (.lst (.cons (.lst (.cons (.lit (.str "person")) .nil)) (.cons (.lst (.cons (.lit (.str "person")) .nil)) (.cons (.lst (.cons (.lit (.str "many")) .nil)) (.cons (.lst (.cons (.lit (.str "many")) .nil)) .nil)))))) (.cons (.ret (.lit (.bool false)))
    .nil) .nil)
    (.cons (.ife (.or (.cmp .ne (.call 3 (.cons (.mkx "FolkError" (.cons (.lit (.str "a")) .nil)) .nil)) (.lst .nil)) (.cmp .ne (.call 3 (.cons (.mkx "FolkError" .nil) .nil)) (.lst .nil))) (.cons (.ret (.lit (.bool false)))
    .nil) .nil)
    .nil))))))))))
    (.cons (.for_ (.tp [(.nm 7), (.nm 8), (.nm 9)]) (.seq (.frz 2)) (.cons (.ife (.cmp .ne (.lst (.cons (.fld (.ix (.v 9) (.lit (.int 0))) "person") (.cons (.fld (.ix (.v 9) (.lit (.int 1))) "person") (.cons (.fld (.ix (.v 9) (.lit (.int 2))) "most") (.cons (.fld (.ix (.v 9) (.lit (.int 3))) "most") .nil))))) (.lst (.cons (.v 7) (.cons (.v 7) (.cons (.v 8) (.cons (.v 8) .nil)))))) (.cons (.ret (.lit (.bool false)))
    .nil) .nil)
    .nil))
    (.cons (.ret (.cmp .isn (.call 5 (.cons (.tup (.cons (.tup (.cons (.lit (.int 0)) .nil)) (.cons (.lit (.int 2)) (.cons (.tup .nil) .nil)))) .nil)) (.lit .none)))
    .nil)))))
def g_law : List D := []
def f_law : Fn := ⟨"law", false, 1, evF g_law [f__law_pile, f__law_all, f__law_take, f__law_kind, f__law_great, f_yard_wrong] false 12 b_law⟩
theorem k_law : ckSs c_law (defScope (top 30)) b_law (defBody (top 30)) = true := by decide +kernel
theorem s_law : FnScope c_law.N ["script"] (defScope (top 30)) := ⟨rfl, rfl, rfl, by decide +kernel, rfl, by decide +kernel, by decide +kernel⟩
theorem m1_NoPerson : FnScope ["self", "person"] ["self", "person"] (defScope (inCls (top 12) 0)) := ⟨rfl, rfl, rfl, by decide +kernel, rfl, by decide +kernel, by decide +kernel⟩
theorem m2_NoPerson : initB "person" (defBody (inCls (top 12) 0)) = true := by decide +kernel
theorem m3_NoPerson : initScB "person" (defScope (inCls (top 12) 0)) = true := by decide +kernel
theorem m1_TooMany : FnScope ["self", "most"] ["self", "most"] (defScope (inCls (top 13) 0)) := ⟨rfl, rfl, rfl, by decide +kernel, rfl, by decide +kernel, by decide +kernel⟩
theorem m2_TooMany : initB "most" (defBody (inCls (top 13) 0)) = true := by decide +kernel
theorem m3_TooMany : initScB "most" (defScope (inCls (top 13) 0)) = true := by decide +kernel
end K06


set_option Elab.async false
set_option linter.all false
set_option maxRecDepth 100000
set_option maxHeartbeats 0
namespace K06
open PySem PySem.Spec PyProof.Rows L2 DL
section
variable {P : Program} {w : World} {K : PySem.W.Frag} {mg : Str → Option Value} {base : Heap}
theorem o__law_pile (E1T : E1 P w K mg base 1 "NoPerson" ∧ E1 P w K mg base 1 "TooMany") (d : Wd fa fns K mg base) : Ok P w K mg base (xoE mg []) 1 "_law_pile" f__law_pile :=
  d.ok 0 0 (ps := ["script", "k"]) (k := 0) rfl rfl (fun _ _ _ _ _ _ us hl => match us, hl with | [_, _], _ => rfl) s__law_pile (by decide) k__law_pile trivial trivial trivial trivial
theorem o__law_bare (E1T : E1 P w K mg base 1 "NoPerson" ∧ E1 P w K mg base 1 "TooMany") (d : Wd fa fns K mg base) : Ok P w K mg base (xoE mg []) 1 "_law_bare" f__law_bare :=
  d.ok 1 1 (ps := ["word"]) (k := 0) rfl rfl (fun _ _ _ _ _ _ us hl => match us, hl with | [_], _ => rfl) s__law_bare (by decide) k__law_bare trivial trivial ⟨d.exc 54 53, d.exc 46 45, d.exc 38 37, d.exc 44 43, d.exc 50 49, d.exc 42 41, d.exc 52 51, trivial⟩ trivial
theorem o__law_all (E1T : E1 P w K mg base 1 "NoPerson" ∧ E1 P w K mg base 1 "TooMany") (d : Wd fa fns K mg base) : Ok P w K mg base (xoE mg []) 2 "_law_all" f__law_all :=
  d.ok 2 2 (ps := ["word"]) (k := 1) rfl rfl (fun _ _ _ _ _ _ us hl => match us, hl with | [_], _ => rfl) s__law_all (by decide) k__law_all trivial ⟨(o__law_bare E1T d).up (by decide), trivial⟩ ⟨d.exc 54 53, d.exc 46 45, d.exc 38 37, d.exc 44 43, d.exc 50 49, d.exc 42 41, d.exc 52 51, d.exc 36 35, d.exc 48 47, d.exc 40 39, trivial⟩ trivial
theorem o__law_mixed (E1T : E1 P w K mg base 1 "NoPerson" ∧ E1 P w K mg base 1 "TooMany") (d : Wd fa fns K mg base) : Ok P w K mg base (xoE mg []) 1 "_law_mixed" f__law_mixed :=
  d.ok 3 3 (ps := ["cell", "k"]) (k := 0) rfl rfl (fun _ _ _ _ _ _ us hl => match us, hl with | [_, _], _ => rfl) s__law_mixed (by decide) k__law_mixed trivial trivial trivial trivial
theorem o__law_take (E1T : E1 P w K mg base 1 "NoPerson" ∧ E1 P w K mg base 1 "TooMany") (d : Wd fa fns K mg base) : Ok P w K mg base (xoE mg []) 2 "_law_take" f__law_take :=
  d.ok 4 4 (ps := ["pile", "many"]) (k := 1) rfl rfl (fun _ _ _ _ _ _ us hl => match us, hl with | [_, _], _ => rfl) s__law_take (by decide) k__law_take trivial ⟨(o__law_mixed E1T d).up (by decide), trivial⟩ trivial trivial
theorem o__law_kind (E1T : E1 P w K mg base 1 "NoPerson" ∧ E1 P w K mg base 1 "TooMany") (d : Wd fa fns K mg base) : Ok P w K mg base (xoE mg []) 1 "_law_kind" f__law_kind :=
  d.ok 5 5 (ps := ["e"]) (k := 0) rfl rfl (fun _ _ _ _ _ _ us hl => match us, hl with | [_], _ => rfl) s__law_kind (by decide) k__law_kind trivial trivial trivial ⟨.inr ⟨_, He.glo_ok d.X d.G (d.c.fact 53 (f := .glo "NoYard") rfl), by decide +kernel⟩, .inr ⟨_, He.glo_ok d.X d.G (d.c.fact 45 (f := .glo "NoStanding") rfl), by decide +kernel⟩, .inr ⟨_, He.glo_ok d.X d.G (d.c.fact 37 (f := .glo "NoLeap") rfl), by decide +kernel⟩, .inr ⟨_, He.glo_ok d.X d.G (d.c.fact 43 (f := .glo "NoRow") rfl), by decide +kernel⟩, .inr ⟨_, He.glo_ok d.X d.G (d.c.fact 49 (f := .glo "NoVector") rfl), by decide +kernel⟩, .inr ⟨_, He.glo_ok d.X d.G (d.c.fact 41 (f := .glo "NoReading") rfl), by decide +kernel⟩, .inr ⟨_, He.glo_ok d.X d.G (d.c.fact 51 (f := .glo "NoWishes") rfl), by decide +kernel⟩, .inr ⟨_, He.glo_ok d.X d.G (d.c.fact 35 (f := .glo "NoCell") rfl), by decide +kernel⟩, .inr ⟨_, He.glo_ok d.X d.G (d.c.fact 47 (f := .glo "NoTable") rfl), by decide +kernel⟩, .inr ⟨_, He.glo_ok d.X d.G (d.c.fact 39 (f := .glo "NoNumber") rfl), by decide +kernel⟩, .inr ⟨_, He.glo_ok d.X d.G (d.c.fact 59 (f := .glo "NoPerson") rfl), by decide +kernel⟩, .inr ⟨_, He.glo_ok d.X d.G (d.c.fact 67 (f := .glo "TooMany") rfl), by decide +kernel⟩, .inr ⟨_, He.glo_ok d.X d.G (d.c.fact 33 (f := .glo "FolkError") rfl), by decide +kernel⟩, .inl ⟨rfl, He.free_ok d.X d.G (d.c.fact 68 (f := .free "ValueError") rfl)⟩, trivial⟩
theorem o__law_great (E1T : E1 P w K mg base 1 "NoPerson" ∧ E1 P w K mg base 1 "TooMany") (d : Wd fa fns K mg base) : Ok P w K mg base (xoE mg []) 3 "_law_great" f__law_great :=
  d.ok 6 6 (ps := ["pile"]) (k := 2) rfl rfl (fun _ _ _ _ _ _ us hl => match us, hl with | [_], _ => rfl) s__law_great (by decide) k__law_great trivial ⟨(o__law_take E1T d).up (by decide), trivial⟩ trivial trivial
theorem o_is_whole (E1T : E1 P w K mg base 1 "NoPerson" ∧ E1 P w K mg base 1 "TooMany") (d : Wd fa fns K mg base) : Ok P w K mg base (xoE mg []) 1 "is_whole" f_is_whole :=
  d.ok 7 7 (ps := ["thing"]) (k := 0) rfl rfl (fun _ _ _ _ _ _ us hl => match us, hl with | [_], _ => rfl) s_is_whole (by decide) k_is_whole trivial trivial trivial trivial
theorem o_are_ways (E1T : E1 P w K mg base 1 "NoPerson" ∧ E1 P w K mg base 1 "TooMany") (d : Wd fa fns K mg base) : Ok P w K mg base (xoE mg []) 2 "are_ways" f_are_ways :=
  d.ok 8 8 (ps := ["thing"]) (k := 1) rfl rfl (fun _ _ _ _ _ _ us hl => match us, hl with | [_], _ => rfl) s_are_ways (by decide) k_are_ways ⟨d.int 32, trivial⟩ ⟨(o_is_whole E1T d).up (by decide), trivial⟩ trivial trivial
theorem o_are_persons (E1T : E1 P w K mg base 1 "NoPerson" ∧ E1 P w K mg base 1 "TooMany") (d : Wd fa fns K mg base) : Ok P w K mg base (xoE mg []) 2 "are_persons" f_are_persons :=
  d.ok 9 9 (ps := ["thing"]) (k := 1) rfl rfl (fun _ _ _ _ _ _ us hl => match us, hl with | [_], _ => rfl) s_are_persons (by decide) k_are_persons ⟨d.int 31, trivial⟩ ⟨(o_is_whole E1T d).up (by decide), trivial⟩ trivial trivial
theorem o_are_posts (E1T : E1 P w K mg base 1 "NoPerson" ∧ E1 P w K mg base 1 "TooMany") (d : Wd fa fns K mg base) : Ok P w K mg base (xoE mg []) 2 "are_posts" f_are_posts :=
  d.ok 10 10 (ps := ["persons", "thing"]) (k := 1) rfl rfl (fun _ _ _ _ _ _ us hl => match us, hl with | [_, _], _ => rfl) s_are_posts (by decide) k_are_posts trivial ⟨(o_is_whole E1T d).up (by decide), trivial⟩ trivial trivial
theorem o_yard_wrong (E1T : E1 P w K mg base 1 "NoPerson" ∧ E1 P w K mg base 1 "TooMany") (d : Wd fa fns K mg base) : Ok P w K mg base (xoE mg []) 3 "yard_wrong" f_yard_wrong :=
  d.ok 11 11 (ps := ["thing"]) (k := 2) rfl rfl (fun _ _ _ _ _ _ us hl => match us, hl with | [_], _ => rfl) s_yard_wrong (by decide) k_yard_wrong trivial ⟨(o_are_ways E1T d).up (by decide), (o_are_persons E1T d).up (by decide), (o_are_posts E1T d).up (by decide), trivial⟩ trivial trivial
theorem o_law (E1T : E1 P w K mg base 1 "NoPerson" ∧ E1 P w K mg base 1 "TooMany") (d : Wd fa fns K mg base) : Ok P w K mg base (xoE mg []) 4 "law" f_law :=
  d.okE 12 12 (ps := ["script"]) (k := 3) rfl rfl (fun _ _ _ _ _ _ us hl => match us, hl with | [_], _ => rfl) s_law (by decide) k_law trivial ⟨(o__law_pile E1T d).up (by decide), (o__law_all E1T d).up (by decide), (o__law_take E1T d).up (by decide), (o__law_kind E1T d).up (by decide), (o__law_great E1T d).up (by decide), (o_yard_wrong E1T d).up (by decide), trivial⟩ ⟨d.exc 34 33, trivial⟩ trivial (fun x hx => ⟨1, by decide, by have e : x ∈ (["NoPerson", "TooMany"] : List Str) := hx; simp only [List.mem_cons, List.not_mem_nil, or_false] at e; rcases e with rfl | rfl <;> first | exact E1T.1 | exact E1T.2⟩)
end
theorem facts {P : Program} {w : World} {K : PySem.W.Frag} {h : Heap} {mg : Str → Option Value} {f : Addr} (X : K.In h) (G : h.Ns mainGlobals mg) (hfa : mg ("law" : Str) = some (.ref f)) (c : He.SaysD fa fns K) (ec : exB K = true) (he : (["NoPerson", "TooMany"].all fun x => e1B K x "FolkError") = true) :
    ∃ fd : FuncData, (∀ (s : Shared) (v : Value), BindsTo s fd ⟨[v], []⟩ [("script", v)]) ∧ ∀ base : Heap, K.In base → base.Ns mainGlobals mg → FnOk P w K mg base CX0 4 f fd ["script"] (fun vs H Q _ => spFn K (xoE mg []) mg f_law vs H Q fun _ _ _ => False) := by
  obtain ⟨fd, F⟩ := c.def_ 12 rfl
  have F : FunD K "law" "law" (defArgs (top 30)) (defBody (top 30)) (defScope (top 30)) [] [] (He.fAd K ("law", none)) fd := F
  have b := FunD.bindsA (ps := ["script"]) F fun _ _ _ _ _ _ us hl => match us, hl with | [_], _ => rfl
  have e := hfa.symm.trans (He.glo_ok X G (c.fact 30 (f := .glo "law") rfl))
  injection e with e
  injection e with e
  subst e
  refine ⟨fd, fun s v => b s [v] rfl, fun base X2 G2 => ?_⟩
  have d : Wd fa fns K mg base := ⟨X2, G2, c, ec⟩
  have E1T : E1 P w K mg base 1 "NoPerson" ∧ E1 P w K mg base 1 "TooMany" := ⟨d.e1 13 (f := "person") (List.all_eq_true.mp he "NoPerson" (by decide)) rfl (by decide +kernel) (fun _ _ _ _ _ _ us hl => match us, hl with | [_, _], _ => rfl) (fun _ _ _ _ _ _ _ _ => rfl) m1_NoPerson m2_NoPerson m3_NoPerson,
    d.e1 14 (f := "most") (List.all_eq_true.mp he "TooMany" (by decide)) rfl (by decide +kernel) (fun _ _ _ _ _ _ us hl => match us, hl with | [_, _], _ => rfl) (fun _ _ _ _ _ _ _ _ => rfl) m1_TooMany m2_TooMany m3_TooMany⟩
  exact FnQuiet (def_ok F s_law (by decide) k_law ⟨GlbAll.at (xs := c_law.gx) (ds := g_law) trivial, fun i y hy => FunAll.at (k := 3) (xs := c_law.fx) (ns := c_law.kx) (fs := [f__law_pile, f__law_all, f__law_take, f__law_kind, f__law_great, f_yard_wrong]) (show FunAll P w K mg base (xoE mg []) 3 _ _ _ from ⟨(o__law_pile E1T d).up (by decide), (o__law_all E1T d).up (by decide), (o__law_take E1T d).up (by decide), (o__law_kind E1T d).up (by decide), (o__law_great E1T d).up (by decide), (o_yard_wrong E1T d).up (by decide), trivial⟩) i y hy, d.blt, exB_ok d.X d.G d.e, xoE_of, CxAll.at (xs := c_law.cx) trivial, ExcAll.at (xs := c_law.ex) ⟨d.exc 34 33, trivial⟩, (fun x hx => ⟨1, by decide, by have e : x ∈ (["NoPerson", "TooMany"] : List Str) := hx; simp only [List.mem_cons, List.not_mem_nil, or_false] at e; rcases e with rfl | rfl <;> first | exact E1T.1 | exact E1T.2⟩), xoE_of1⟩)
theorem head (hl : ∀ ns : List Int, ns.length ≤ 63 → ∃ o, f_law.run [] [.dict [(.none, .list (ns.map PyData.int))]] = .ret (.d (.bool true)) o) : PySem.Challenge.rw_leapfolk_k95_refusals_made.Holds := by
  open PySem.W PySem.Calls in
  w_on; o_law
  refine HandSHeadRun.head_any (r := PySem.W.OpenLaw.row PySem.Challenge.rw_leapfolk_k95_refusals_made) (q := PySem.W.view (PySem.W.OpenLaw.row PySem.Challenge.rw_leapfolk_k95_refusals_made).prog [30]) (H := hk) (ob := ob) (M := 20000) (loose := names) (d := HandSHeadRun.topDef (PySem.W.OpenLaw.row PySem.Challenge.rw_leapfolk_k95_refusals_made).prog 30) (kwd := []) ob_eq
    (by kernel_rfl) (fun s => by kernel_rfl) run (by kernel_rfl) (by kernel_rfl) (by kernel_rfl) (by rfl) (by first | assumption | decide +kernel) (by decide +kernel) ⟨rfl, rfl, rfl, rfl, rfl, by decide +kernel⟩ ?hw ?hc
  case hw => w_witness2
  case hc =>
    refine L2.walk_ofE (l := PySem.Challenge.rw_leapfolk_k95_refusals_made) (n := 63) (k := 4) (x := "script") (CX := L2.CX0) rfl (by decide) (by kernel_rfl) ⟨rfl, by decide, by decide⟩ ?F (fun _ _ _ _ z => z)
    intro w mg fa0 h Y G hmg0
    obtain ⟨K, KX, c, ec, he⟩ := Y
    have hmg : mg ("law" : PySem.Str) = some (.ref fa0) := by
      have e : (HandSHeadRun.topDef (PySem.W.OpenLaw.row PySem.Challenge.rw_leapfolk_k95_refusals_made).prog 30).name = ("law" : PySem.Str) := by kernel_rfl
      rw [← e]
      exact hmg0
    obtain ⟨fd, hb, hF⟩ := facts (P := (PySem.Challenge.rw_leapfolk_k95_refusals_made).prog) (w := w) KX G hmg c ec he
    exact ⟨K, fd, (fun vs H Q _ => spFn K (xoE mg []) mg f_law vs H Q fun _ _ _ => False), KX, hb, fun H a ns hn _ hS => law_sp rfl rfl hl H (fun p hp => absurd (show p ∈ ([] : List _) from hp) List.not_mem_nil) a ns hn hS, hF⟩
end K06


set_option Elab.async false
set_option linter.all false
set_option maxRecDepth 100000
set_option maxHeartbeats 4000000
namespace K06
open PySem DL

abbrev XF : Str → List D → List D → Prop := fun _ _ _ => False
/-- what the law draws from -/
def Pile (o : List D) : Prop := ∃ (a b c : Int) (d : Bool), o = [.int a, .int b, .int c, .bool d] ∧ 0 ≤ a
theorem u_mixed : f__law_mixed.run = evF g__law_mixed [] false 3 b__law_mixed := rfl
theorem u_take : f__law_take.run = evF g__law_take [f__law_mixed] true 3 b__law_take := rfl
theorem t_mixed (a k : Int) (Q : DV → List D → Prop) (X) (q : ∀ n, Q (.d (.int n)) []) : wF (f__law_mixed.run [] [.int a, .int k]) Q X := by
  rw [u_mixed, rF, show env0 false 3 [] [.int a, .int k] = [.val (.int a), .val (.int k), .un] from rfl]
  simp only [b__law_mixed, rS, rE, rEs, rB, rV, rZ]
  refine ⟨by decide, .inr (.inl (by decide)), .inr (.inl (by decide)), by decide, ?_, by decide, ?_, by decide, ⟨by decide, .inl (by decide)⟩, q _⟩
  · have h : ∀ x : Int, (x.fmod 2147483647).natAbs < 2 ^ 64 := fun x => by
      have h1 := Int.fmod_nonneg_of_pos x (b := 2147483647) (by decide)
      have h2 := Int.fmod_lt_of_pos x (b := 2147483647) (by decide)
      omega
    exact .inl (h _)
  · have h : ∀ x : Int, (x.fmod 2147483629).natAbs < 2 ^ 64 := fun x => by
      have h1 := Int.fmod_nonneg_of_pos x (b := 2147483629) (by decide)
      have h2 := Int.fmod_lt_of_pos x (b := 2147483629) (by decide)
      omega
    exact .inl (h _)
theorem take_ok {o : List D} (p : Pile o) {m : Int} (hm : 1 ≤ m) (hm2 : m < 2 ^ 64) (Q : DV → List D → Prop) (X) (q : ∀ n o', 0 ≤ n → n < m → Pile o' → Q (.d (.int n)) o') : wF (f__law_take.run o [.int m]) Q X := by
  obtain ⟨a, b, c, d, rfl, ha⟩ := p
  rw [u_take, rF, show env0 true 3 [.int a, .int b, .int c, .bool d] [.int m] = [.own true [.int a, .int b, .int c, .bool d], .val (.int m), .un] from rfl]
  have em : ([PyData.int 0, PyData.int (-1)] : List D) = [0, -1].map PyData.int := rfl
  simp only [b__law_take, rS, rE, rEs, rB, rV, rZ, rC, em, cmp_mem_ints, rI]
  have hn : ∀ x : Int, 0 ≤ x.fmod m ∧ x.fmod m < m := fun x => ⟨Int.fmod_nonneg_of_pos x (by omega), Int.fmod_lt_of_pos x (by omega)⟩
  refine ⟨by decide, ?_⟩
  split
  · refine ⟨rfl, rfl, t_mixed b (c + 1) _ _ fun n => ?_⟩
    simp only [rB, rZ, rI]
    exact ⟨by omega, q _ _ (hn n).1 (hn n).2 ⟨a, b, c + 1, d, rfl, ha⟩⟩
  · refine ⟨by omega, ⟨by omega, .inl ?_⟩, q _ _ (hn a).1 (hn a).2 ⟨a.fdiv m, b, c, d, rfl, ?_⟩⟩
    · exact Nat.lt_of_lt_of_le (PySem.Flt.log2_lt_of (show 0 < 64 by decide) (show m.natAbs < 2 ^ 64 by omega)) (by decide)
    · exact Int.fdiv_nonneg ha (by omega)
theorem u_great : f__law_great.run = evF g__law_great [f__law_take] true 1 b__law_great := rfl
theorem great_ok {o : List D} (p : Pile o) (Q : DV → List D → Prop) (X) (q : ∀ n o', 0 ≤ n → n < 10000000000 → Pile o' → Q (.d (.int n)) o') : wF (f__law_great.run o []) Q X := by
  rw [u_great, rF, show env0 true 1 o [] = [.own true o] from rfl]
  simp only [b__law_great, rS, rE, rEs, rB, rV, rZ, rC, rI]
  refine ⟨⟨by decide, by decide, by decide⟩, rfl, rfl, take_ok p (by decide) (by decide) _ _ fun n o1 h1 h2 p1 => ?_⟩
  simp only [rB, rV, rZ, rC, rI]
  refine ⟨⟨by decide, by decide, by decide⟩, .inr (.inl (by decide)), ⟨by decide, by decide, by decide⟩, rfl, rfl, take_ok p1 (by decide) (by decide) _ _ fun m o2 h3 h4 p2 => ?_⟩
  simp only [rB, rV, rZ, rC, rI]
  have e : ((10 : Int) ^ Int.toNat 5) = 100000 := by decide
  rw [e] at h2 h4 ⊢
  exact q _ _ (by omega) (by omega) p2
/-- ways, a size each: 0 a line -/
def Ways (ws : List Int) : Prop := ∀ s ∈ ws, s = 0 ∨ 2 ≤ s
def I (v : List Int) : D := .tuple (v.map .int)
theorem u_pile : f__law_pile.run = evF g__law_pile [] false 4 b__law_pile := rfl
def scr (ns : List Int) : D := .dict [(.none, .list (ns.map PyData.int))]
theorem pile_ok (ns : List Int) {k : Int} (hk : 0 ≤ k) (hk2 : k ≤ 100) (Q : DV → List D → Prop) (X) (q : ∀ o, Pile o → Q (.fr o) []) : wF (f__law_pile.run [] [scr ns, .int k]) Q X := by
  rw [u_pile, rF, show env0 false 4 [] [scr ns, .int k] = [.val (.dict [(.none, .list (ns.map PyData.int))]), .val (.int k), .un, .un] from rfl]
  rw [split_at _ _ _ 2 b__law_pile]
  have tail : ∀ c : Int, wS (evSs g__law_pile [] (drp 2 b__law_pile) [.val (.dict [(.none, .list (ns.map PyData.int))]), .val (.int k), .val (.int c), .un]) (endP false Q X) := fun c => by
    simp only [b__law_pile, drp, rS, rE, rEs, rB, rV, rZ, rC, rI, rU]
    have e : (10 : Int) ^ Int.toNat 50 = 10 ^ 50 := rfl
    rw [e]
    have h1 := Int.fmod_nonneg_of_pos c (b := 10 ^ 50 * 10 ^ 50 * 10 ^ 50) (by decide)
    refine ⟨⟨by decide, by decide, by decide⟩, ⟨by decide, by decide, by decide⟩, .inr (.inr (by decide +kernel)), ⟨by decide, by decide, by decide⟩, .inr (.inr (by decide +kernel)), by decide, l2, ⟨by decide, by decide, by decide⟩, ?_⟩
    have two : ∀ z : Prop, [Decidable z] → (0 : Int) ≤ (if z then 1 else 0) ∧ (if z then (1 : Int) else 0) < 2 := fun z _ => by split <;> decide
    refine at_any (xs := [_, _]) (two _).1 (two _).2 fun d hd => ?_
    have hd' : ∃ a : Int, d = .int a ∧ 0 ≤ a := by
      simp only [List.mem_cons, List.not_mem_nil, or_false] at hd
      rcases hd with rfl | rfl
      · exact ⟨0, rfl, Int.le_refl _⟩
      · exact ⟨_, rfl, h1⟩
    obtain ⟨a, rfl, ha⟩ := hd'
    exact ⟨by decide, .inl (by decide), l4, q _ ⟨_, _, _, _, rfl, ha⟩⟩
  simp only [show tk 2 b__law_pile = _ from rfl, b__law_pile, tk, rS, rE, rEs, rB, rV, rZ, rC, rI, rU, List.length_map]
  by_cases h : k < (ns.length : Int)
  · simp only [h, decide_true, if_true]
    refine at_any hk (by rw [List.length_map]; exact h) fun d hd => ?_
    obtain ⟨c, _, rfl⟩ := List.mem_map.mp hd
    exact tail c
  · simp only [h, decide_false, Bool.false_eq_true, if_false]
    exact tail 0
end K06


set_option Elab.async false
set_option linter.all false
set_option maxRecDepth 100000
set_option maxHeartbeats 4000000
namespace K06
open PySem DL
/-! exceptions made and kept: the law -/
def nms : List Str := ["NoYard", "NoStanding", "NoLeap", "NoRow", "NoVector", "NoReading", "NoWishes", "NoCell", "NoTable", "NoNumber"]
def wds : List D := [.str "yard", .str "standing", .str "leap", .str "row", .str "vector", .str "reading", .str "wishes", .str "cell", .str "table", .str "number"]
def ten : List D := nms.map fun c => exD c []
theorem all_eq (d : D) : f__law_all.run [] [d] = .ret (.fr [.list ten, .list ten]) [] := by kernel_rfl
/-- what _law_kind tells -/
def kd (d : D) : Option D := match f__law_kind.run [] [d] with
  | .ret (.fr xs) _ => some (.list xs)
  | _ => none
theorem kd_by {d : D} {ws : List D} (h : f__law_kind.run [] [d] = .ret (.fr ws) []) : kd d = some (.list ws) := by
  unfold kd
  rw [h]
theorem kind_by {d : D} {ws : List D} (h : f__law_kind.run [] [d] = .ret (.fr ws) []) (Q : DV → List D → Prop) (X) (q : Q (.fr ws) []) : wF (f__law_kind.run [] [d]) Q X := by
  rw [h]
  exact q
theorem wFr (v : DV) (o : List D) (Q : DV → List D → Prop) (X : Str → List D → List D → Prop) : wF (.ret v o) Q X = Q v o := rfl
theorem k0 : f__law_kind.run [] [exD "NoYard" []] = .ret (.fr [.str "yard"]) [] := by kernel_rfl
theorem k1 : f__law_kind.run [] [exD "NoStanding" []] = .ret (.fr [.str "standing"]) [] := by kernel_rfl
theorem k2 : f__law_kind.run [] [exD "NoLeap" []] = .ret (.fr [.str "leap"]) [] := by kernel_rfl
theorem k3 : f__law_kind.run [] [exD "NoRow" []] = .ret (.fr [.str "row"]) [] := by kernel_rfl
theorem k4 : f__law_kind.run [] [exD "NoVector" []] = .ret (.fr [.str "vector"]) [] := by kernel_rfl
theorem k5 : f__law_kind.run [] [exD "NoReading" []] = .ret (.fr [.str "reading"]) [] := by kernel_rfl
theorem k6 : f__law_kind.run [] [exD "NoWishes" []] = .ret (.fr [.str "wishes"]) [] := by kernel_rfl
theorem k7 : f__law_kind.run [] [exD "NoCell" []] = .ret (.fr [.str "cell"]) [] := by kernel_rfl
theorem k8 : f__law_kind.run [] [exD "NoTable" []] = .ret (.fr [.str "table"]) [] := by kernel_rfl
theorem k9 : f__law_kind.run [] [exD "NoNumber" []] = .ret (.fr [.str "number"]) [] := by kernel_rfl
theorem kf : f__law_kind.run [] [exD "FolkError" []] = .ret (.fr []) [] := by kernel_rfl
theorem kp (t : D) : f__law_kind.run [] [exD "NoPerson" [t]] = .ret (.fr [.str "person"]) [] := by kernel_rfl
theorem km (t : D) : f__law_kind.run [] [exD "TooMany" [t]] = .ret (.fr [.str "many"]) [] := by kernel_rfl
theorem kind_ten {d : D} (h : d ∈ ten) : ∃ w, f__law_kind.run [] [d] = .ret (.fr [w]) [] := by
  unfold ten nms at h
  simp only [List.map_cons, List.map_nil, List.mem_cons, List.not_mem_nil, or_false] at h
  rcases h with rfl | rfl | rfl | rfl | rfl | rfl | rfl | rfl | rfl | rfl
  · exact ⟨_, k0⟩
  · exact ⟨_, k1⟩
  · exact ⟨_, k2⟩
  · exact ⟨_, k3⟩
  · exact ⟨_, k4⟩
  · exact ⟨_, k5⟩
  · exact ⟨_, k6⟩
  · exact ⟨_, k7⟩
  · exact ⟨_, k8⟩
  · exact ⟨_, k9⟩
theorem kinds_ten : ten.filterMap kd = wds.map fun w => PyData.list [w] := by
  unfold ten nms wds
  simp only [List.map_cons, List.map_nil, List.filterMap_cons, List.filterMap_nil, kd_by k0, kd_by k1, kd_by k2, kd_by k3, kd_by k4, kd_by k5, kd_by k6, kd_by k7, kd_by k8, kd_by k9]
theorem yard_plain : f_yard_wrong.run [] [.tuple [.tuple [.int 0], .int 2, .tuple []]] = .ret (.d .none) [] := by kernel_rfl
/-- the kinds of all that is made here -/
theorem kinds_ex : ∃ g : D → Option D, (∀ t, g (exD "NoPerson" [t]) = some (.list [.str "person"])) ∧ (∀ t, g (exD "TooMany" [t]) = some (.list [.str "many"])) ∧ ten.filterMap g = (wds.map fun w => PyData.list [w]) ∧
    ∀ d ∈ ten, ∃ w, f__law_kind.run [] [d] = .ret (.fr [w]) [] ∧ g d = some (.list [w]) :=
  ⟨kd, fun t => kd_by (kp t), fun t => kd_by (km t), kinds_ten, fun d hd => (kind_ten hd).imp fun w h => ⟨h, kd_by h⟩⟩
end K06


set_option Elab.async false
set_option linter.all false
set_option maxRecDepth 100000
set_option maxHeartbeats 4000000
namespace K06
open PySem DL
theorem u_law : f_law.run = evF g_law [f__law_pile, f__law_all, f__law_take, f__law_kind, f__law_great, f_yard_wrong] false 12 b_law := rfl
abbrev GL : List Fn := [f__law_pile, f__law_all, f__law_take, f__law_kind, f__law_great, f_yard_wrong]
def bodyOf : Sxs → Sxs
  | .cons (.for_ _ _ b) _ => b
  | s => s
def t_main : Sxs := drp 2 b_law
def t_body : Sxs := bodyOf t_main
def t_two : Sxs := drp 2 t_body
def twoD (t o : D) : D := .list [exD "NoPerson" [t], exD "NoPerson" [t], exD "TooMany" [o], exD "TooMany" [o]]
/-- what is kept -/
def Kept (d : D) : Prop := ∃ t o, LayN 2 t ∧ LayN 2 o ∧ d = .tuple [t, o, twoD t o]
theorem words_map (Q : DV → Prop) : (wds.filterMap fun d => some (PyData.list [d])) = wds.map fun w => PyData.list [w] := rfl
theorem lay_words : LayN 2 (.list (wds.map fun w => PyData.list [w])) := ⟨by decide +kernel, by decide +kernel⟩
theorem lay_str (n : Nat) {x : Str} (h : (PyData.str x).canLay0 = true) : LayN n (.str x) := ⟨h, Nat.zero_le _⟩
theorem lay_pair (a b : Int) : LayN 2 (.tuple [.int a, .int b]) := layN_tup fun x hx => by
  simp only [List.mem_cons, List.not_mem_nil, or_false] at hx
  rcases hx with rfl | rfl <;> exact layN_int _ _
theorem lay_a {g : Int} {d : D} (h : d ∈ [PyData.int g, .none, .str "a", .tuple [.int g, .int 0], .int (0 - g), .bool true]) : LayN 2 d := by
  simp only [List.mem_cons, List.not_mem_nil, or_false] at h
  rcases h with rfl | rfl | rfl | rfl | rfl | rfl
  · exact layN_int _ _
  · exact layN_none _
  · exact lay_str 2 (by decide +kernel)
  · exact lay_pair _ _
  · exact layN_int _ _
  · exact layN_bool _ _
theorem lay_b {g : Int} {d : D} (h : d ∈ [PyData.int g, .none, .str "b", .tuple [.int 0, .int g], .int (0 - g), .bool false]) : LayN 2 d := by
  simp only [List.mem_cons, List.not_mem_nil, or_false] at h
  rcases h with rfl | rfl | rfl | rfl | rfl | rfl
  · exact layN_int _ _
  · exact layN_none _
  · exact lay_str 2 (by decide +kernel)
  · exact lay_pair _ _
  · exact layN_int _ _
  · exact layN_bool _ _
def kinds4 : List D := [.list [.str "person"], .list [.str "person"], .list [.str "many"], .list [.str "many"]]
theorem lay_kinds4 : LayN 2 (.list kinds4) := ⟨by decide +kernel, by decide +kernel⟩
theorem lay_nil : LayN 1 (.list []) := ⟨by decide +kernel, by decide +kernel⟩
end K06


set_option Elab.async false
set_option linter.all false
set_option maxRecDepth 100000
set_option maxHeartbeats 4000000
namespace K06
open PySem DL
def t_kin : Sxs := drp 5 t_two
def t_fol : Sxs := drp 6 t_two
theorem fol_ok {s0 s1 s2 s3 s4 s5 s6 s7 s8 s9 s10 s11 : Slot} (P : RS → Prop) (q : P (.nx [s0, s1, s2, s3, s4, s5, s6, s7, s8, s9, s10, s11])) : wS (evSs g_law GL t_fol [s0, s1, s2, s3, s4, s5, s6, s7, s8, s9, s10, s11]) P := by
  simp only [t_fol, t_two, t_body, t_main, bodyOf, b_law, drp, rS, rE, rEs, rB, rV, rZ, rC, rI, rU, rP, rQ, rL, rM, if_true]
  refine ⟨rfl, rfl, ?_⟩
  rw [kf, wFr]
  refine ⟨l0, ?_⟩
  simp only [DV.fz, cmp_ne_self lay_nil (by decide), rS, rE, rEs, rB, rV, rZ, rC, rI, rU, rP, rQ, rL, rM, if_true, Bool.false_eq_true, if_false]
  refine ⟨rfl, rfl, ?_⟩
  rw [wFr]
  refine ⟨l0, ?_⟩
  simp only [DV.fz, cmp_ne_self lay_nil (by decide), rS, rE, rEs, rB, rV, rZ, rC, rI, rU, rP, rQ, rL, rM, if_true, Bool.false_eq_true, if_false]
  exact q
theorem kin_go {g : D → Option D} (gp : ∀ t, g (exD "NoPerson" [t]) = some (.list [.str "person"])) (gm : ∀ t, g (exD "TooMany" [t]) = some (.list [.str "many"])) {s0 s1 s2 s3 s4 s5 s6 s7 s8 : Slot} {t u : D} (P : RS → Prop) (q : P (.nx [s0, s1, s2, s3, s4, s5, s6, s7, s8, .val (twoD t u), .un, .un])) : wS (evSs g_law GL t_kin [s0, s1, s2, s3, s4, s5, s6, s7, s8, .val (twoD t u), .un, .un]) P := by
  rw [split_at _ _ _ 1 t_kin, show drp 1 t_kin = t_fol from rfl]
  have fol := @fol_ok
  generalize t_fol = T at fol ⊢
  simp only [t_kin, t_two, t_body, t_main, bodyOf, b_law, drp, tk, twoD, rS, rE, rEs, rB, rV, rZ, rC, rI, rU, rP, rQ, rL, rM, if_true]
  refine comp_pure g rfl (fun z hz => ?_) fun e6 he => ?_
  · have hz : ∃ ws, f__law_kind.run [] [z] = .ret (.fr ws) [] ∧ g z = some (.list ws) := by
      simp only [List.mem_cons, List.not_mem_nil, or_false] at hz
      rcases hz with rfl | rfl | rfl | rfl
      · exact ⟨[.str "person"], kp t, gp t⟩
      · exact ⟨[.str "person"], kp t, gp t⟩
      · exact ⟨[.str "many"], km u, gm u⟩
      · exact ⟨[.str "many"], km u, gm u⟩
    obtain ⟨ws, h1, h2⟩ := hz
    simp only [rS, rE, rEs, rB, rV, rZ, rC, rI, rU, rP, rQ, rL, rM, if_true, wipeE]
    refine ⟨rfl, rfl, ?_⟩
    rw [h1, wFr, h2]
    rfl
  simp only [List.filterMap_cons, List.filterMap_nil, gp, gm]
  refine ⟨l4, l1, l1, l1, l1, l4, ?_⟩
  rw [show [PyData.list [.str "person"], .list [.str "person"], .list [.str "many"], .list [.str "many"]] = kinds4 from rfl, cmp_ne_self lay_kinds4 (by decide)]
  simp only [he, rS, rE, rEs, rB, rV, rZ, rC, rI, rU, rP, rQ, rL, rM, if_true, Bool.false_eq_true, if_false]
  exact fol P q
end K06


set_option Elab.async false
set_option linter.all false
set_option maxRecDepth 100000
set_option maxHeartbeats 4000000
namespace K06
open PySem DL
theorem two_ok (script : Slot) {k : Int} {o : List D} (p : Pile o) {ks : List D} (hl : ks.length < 100) {s5 s6 s7 s8 s9 : Slot} (P : RS → Prop)
    (q : ∀ d s4 s5 s6 s7 s8 s9, Kept d → P (.nx [script, .val (.list wds), .own false (ks ++ [d]), .val (.int k), s4, s5, s6, s7, s8, s9, .un, .un])) :
    wS (evSs g_law GL t_two [script, .val (.list wds), .own false ks, .val (.int k), .own false o, s5, s6, s7, s8, s9, .un, .un]) P := by
  rw [split_at _ _ _ 5 t_two, show drp 5 t_two = t_kin from rfl]
  have kin := @kin_go (Classical.choose kinds_ex) (Classical.choose_spec kinds_ex).1 (Classical.choose_spec kinds_ex).2.1
  generalize t_kin = T at kin ⊢
  simp only [t_two, t_body, t_main, bodyOf, b_law, drp, tk, rS, rE, rEs, rB, rV, rZ, rC, rI, rU, rP, rQ, rL, rM, if_true]
  refine ⟨rfl, rfl, great_ok p _ _ fun g o g1 g2 p => ?_⟩
  simp only [rS, rE, rEs, rB, rV, rZ, rC, rI, rU, rP, rQ, rL, rM, if_true]
  refine ⟨l2, (show 6 ≤ lim by decide), rfl, rfl, take_ok p (by decide) (by decide) _ _ fun a o a1 a2 p => ?_⟩
  refine at_any (xs := [_, _, _, _, _, _]) a1 a2 fun t ht => ?_
  have lt := lay_a ht
  clear ht
  refine ⟨l2, (show 6 ≤ lim by decide), rfl, rfl, take_ok p (by decide) (by decide) _ _ fun b o b1 b2 p => ?_⟩
  refine at_any (xs := [_, _, _, _, _, _]) b1 b2 fun u hu => ?_
  have lu := lay_b hu
  clear hu
  refine ⟨l4, l3, Nat.lt_trans hl (by decide), ?_⟩
  exact kin P (q _ _ _ _ _ _ _ ⟨t, u, lt, lu, rfl⟩)
def t_in : Sxs := bodyOf (drp 1 t_body)
theorem dec_len : ∀ n : Nat, n < 1000 → (Str.ofString (toString (n : Int))).length ≤ 100 := by decide +kernel
theorem words_of : ∀ W : List D, (W.filterMap fun d => some (PyData.list [d])) = W.map fun w => PyData.list [w]
  | [] => rfl
  | x :: r => by rw [List.filterMap_cons, words_of r]; rfl
theorem word_len : ("word " : Str).length = 5 := by decide +kernel
theorem in_go {g : D → Option D} (g10 : ten.filterMap g = wds.map fun w => PyData.list [w]) (gt : ∀ d ∈ ten, ∃ w, f__law_kind.run [] [d] = .ret (.fr [w]) [] ∧ g d = some (.list [w])) {s0 s2 s3 s4 s6 s7 s8 s9 : Slot} (P : RS → Prop)
    (q : P (.nx [s0, .val (.list wds), s2, s3, s4, .val (.list ten), s6, s7, s8, s9, .un, .un])) : wS (evSs g_law GL t_in [s0, .val (.list wds), s2, s3, s4, .val (.list ten), s6, s7, s8, s9, .un, .un]) P := by
  have lt : ten.length = 10 := rfl
  generalize ten = T at g10 gt lt q ⊢
  have lw : wds.length = 10 := rfl
  have lay := lay_words
  generalize wds = W at g10 lw lay q ⊢
  simp only [t_in, t_body, t_main, bodyOf, b_law, drp, rS, rE, rEs, rB, rV, rZ, rC, rI, rU, rP, rQ, rL, rM, if_true]
  refine comp_pure g rfl (fun z hz => ?_) fun e6 he => ?_
  · simp only [rS, rE, rEs, rB, rV, rZ, rC, rI, rU, rP, rQ, rL, rM, if_true, wipeE]
    refine ⟨rfl, rfl, ?_⟩
    obtain ⟨w, h1, h2⟩ := gt z hz
    rw [h1, wFr, h2]
    rfl
  rw [g10]
  refine ⟨by rw [List.length_map, lw]; decide, ?_⟩
  simp only [he, rS, rE, rEs, rB, rV, rZ, rC, rI, rU, rP, rQ, rL, rM, if_true]
  refine comp_pure (fun d => some (PyData.list [d])) rfl (fun z hz => ?_) fun e7 he7 => ?_
  · simp only [rS, rE, rEs, rB, rV, rZ, rC, rI, rU, rP, rQ, rL, rM, if_true, wipeE]
    exact ⟨l1, trivial⟩
  have e := words_of W
  rw [e]
  refine ⟨by rw [List.length_map, lw]; decide, ?_⟩
  rw [cmp_ne_self lay (by decide)]
  simp only [he7, rS, rE, rEs, rB, rV, rZ, rC, rI, rU, rP, rQ, rL, rM, if_true, Bool.false_eq_true, if_false]
  exact q
theorem bare_ok (script : Slot) {k : Int} {o : List D} (p : Pile o) {ks : List D} (hl : ks.length < 100) {s5 s6 s7 s8 s9 : Slot} (P : RS → Prop)
    (q : ∀ d s4 s5 s6 s7 s8 s9, Kept d → P (.nx [script, .val (.list wds), .own false (ks ++ [d]), .val (.int k), s4, s5, s6, s7, s8, s9, .un, .un])) :
    wS (evSs g_law GL (drp 1 t_body) [script, .val (.list wds), .own false ks, .val (.int k), .own false o, s5, s6, s7, s8, s9, .un, .un]) P := by
  rw [split_at _ _ _ 1 (drp 1 t_body), show drp 1 (drp 1 t_body) = t_two from rfl]
  rw [show tk 1 (drp 1 t_body) = .cons (.for_ (.nm 5) (.seq (.call 1 (.cons (.bin .add (.lit (.str "word ")) (.bi .stri (.cons (.callo 2 4 (.cons (.lit (.int 1000)) .nil)) .nil))) .nil))) t_in) .nil from rfl]
  have two := @two_ok script k
  have inn := @in_go (Classical.choose kinds_ex) (Classical.choose_spec kinds_ex).2.2.1 (Classical.choose_spec kinds_ex).2.2.2
  generalize t_two = T at two ⊢
  generalize t_in = U at inn ⊢
  simp only [rS, rE, rEs, rB, rV, rZ, rC, rI, rU, rP, rQ, rL, rM, if_true]
  refine ⟨rfl, rfl, take_ok p (by decide) (by decide) _ _ fun a o a1 a2 p => ?_⟩
  have e1 : bi .stri [(DV.d (PyData.int a)).fz] = some (.d (.str (Str.ofString (toString a)))) := if_pos (Nat.lt_of_le_of_lt (Nat.log2_le_self _) (show a.natAbs < 1920 by omega))
  have e2 : (Str.ofString (toString a)).length ≤ 100 := by
    obtain ⟨n, rfl⟩ : ∃ n : Nat, a = (n : Int) := ⟨a.toNat, by omega⟩
    exact dec_len n (by omega)
  rw [e1, wO_some]
  generalize Str.ofString (toString a) = x at e2
  have e4 : ("word " : Str).length + x.length ≤ lim := by
    rw [word_len]
    exact Nat.le_trans (show 5 + x.length ≤ 105 by omega) (by decide)
  have e3 : bin .add (.str "word ") (DV.d (PyData.str x)).fz = some (.d (.str (("word " : Str) ++ x))) := if_pos e4
  rw [e3, wO_some]
  refine ⟨rfl, rfl, ?_⟩
  rw [all_eq, wFr]
  show wS (forGo (.nm 5) (evSs g_law GL U) [.list ten, .list ten] _) _
  generalize ten = L at inn ⊢
  refine for_inv (fun xs e => ∃ s5, (∀ x ∈ xs, x = .list L) ∧ e = [script, .val (.list wds), .own false ks, .val (.int k), .own false o, s5, s6, s7, s8, s9, .un, .un]) (fun x r e h => ?_) (fun e h => ?_) _ _ ⟨s5, fun x hx => ?_, rfl⟩
  · obtain ⟨s5, hx, rfl⟩ := h
    have ex := hx x List.mem_cons_self
    subst ex
    simp only [rS, rE, rEs, rB, rV, rZ, rC, rI, rU, rP, rQ, rL, rM, if_true]
    refine inn _ ?_
    exact ⟨_, fun x h => hx x (List.mem_cons_of_mem _ h), rfl⟩
  · obtain ⟨s5, _, rfl⟩ := h
    exact two p hl _ q
  · simp only [List.mem_cons, List.not_mem_nil, or_false, or_self] at hx
    exact hx
def t_end : Sxs := drp 3 b_law
theorem fldp (t : D) : fldD "person" (exD "NoPerson" [t]) = some t := by
  show (if exNames.contains "NoPerson" && fieldOf "NoPerson" == "person" then some t else none) = some t
  exact if_pos (by decide +kernel)
theorem fldm (t : D) : fldD "most" (exD "TooMany" [t]) = some t := by
  show (if exNames.contains "TooMany" && fieldOf "TooMany" == "most" then some t else none) = some t
  exact if_pos (by decide +kernel)
theorem lay_four {t u : D} (ht : LayN 2 t) (hu : LayN 2 u) : LayN 3 (.list [t, t, u, u]) := layN_lst fun x hx => by
  simp only [List.mem_cons, List.not_mem_nil, or_false] at hx
  rcases hx with rfl | rfl | rfl | rfl <;> assumption
theorem end_ok {ks : List D} (hk : ∀ d ∈ ks, Kept d) {s0 s1 s3 s4 s5 s6 s7 s8 s9 : Slot} (P : RS → Prop) (q : ∀ e, P (.rt (.d (.bool true)) e)) : wS (evSs g_law GL t_end [s0, s1, .own false ks, s3, s4, s5, s6, s7, s8, s9, .un, .un]) P := by
  simp only [t_end, b_law, drp, rS, rE, rEs, rB, rV, rZ, rC, rI, rU, rP, rQ, rL, rM, if_true]
  refine for_inv (fun xs e => ∃ s7 s8 s9, (∀ d ∈ xs, Kept d) ∧ e = [s0, s1, .val (.list ks), s3, s4, s5, s6, s7, s8, s9, .un, .un]) (fun x r e h => ?_) (fun e h => ?_) _ _ ⟨_, _, _, hk, rfl⟩
  · obtain ⟨s7, s8, s9, hx, rfl⟩ := h
    obtain ⟨t, u, lt, lu, rfl⟩ := hx x List.mem_cons_self
    simp only [twoD, rS, rE, rEs, rB, rV, rZ, rC, rI, rU, rP, rQ, rL, rM, if_true]
    rw [fldp, fldm, wO_some, wO_some, wO_some, wO_some]
    refine ⟨l4, l4, ?_⟩
    rw [cmp_ne_self (lay_four lt lu) (by decide), if_neg Bool.false_ne_true]
    exact ⟨_, _, _, fun d h => hx d (List.mem_cons_of_mem _ h), rfl⟩
  · obtain ⟨s7, s8, s9, _, rfl⟩ := h
    simp only [rS, rE, rEs, rB, rV, rZ, rC, rI, rU, rP, rQ, rL, rM, if_true]
    refine ⟨l1, l0, l3, rfl, rfl, ?_⟩
    rw [yard_plain, wFr]
    exact q _
theorem law_ok (ns : List Int) : wF (f_law.run [] [scr ns]) (fun v _ => v = .d (.bool true)) fun _ _ _ => False := by
  rw [u_law, rF, show env0 false 12 [] [scr ns] = [.val (scr ns), .un, .un, .un, .un, .un, .un, .un, .un, .un, .un, .un] from rfl]
  rw [split_at _ _ _ 2 b_law, show drp 2 b_law = .cons (.for_ (.nm 3) (.rng (.cons (.lit (.int 8)) .nil)) t_body) t_end from rfl]
  have e0 := @end_ok
  have bare := @bare_ok
  have eb : drp 1 t_body = drp 1 t_body := rfl
  generalize t_end = E at e0 ⊢
  rw [show t_body = .cons (.own 4 (.call 0 (.cons (.v 0) (.cons (.v 3) .nil)))) (drp 1 t_body) from rfl]
  generalize drp 1 t_body = B at bare ⊢
  simp only [b_law, tk, rS, rE, rEs, rB, rV, rZ, rC, rI, rU, rP, rQ, rL, rM, if_true]
  refine ⟨(show 10 ≤ lim by decide), l0, by decide, ?_⟩
  rw [show PyData.list [.str "yard", .str "standing", .str "leap", .str "row", .str "vector", .str "reading", .str "wishes", .str "cell", .str "table", .str "number"] = .list wds from rfl]
  refine for_inv (fun xs e => ∃ (ks : List D) (s3 s4 s5 s6 s7 s8 s9 : Slot), (∀ x ∈ xs, ∃ k : Int, x = .int k ∧ 0 ≤ k ∧ k ≤ 100) ∧ (∀ d ∈ ks, Kept d) ∧ ks.length + xs.length ≤ 8 ∧ e = [.val (scr ns), .val (.list wds), .own false ks, s3, s4, s5, s6, s7, s8, s9, .un, .un]) (fun x r e h => ?_) (fun e h => ?_) _ _ ⟨[], _, _, _, _, _, _, _, fun x hx => ?_, (fun d hd => nomatch hd), by decide, rfl⟩
  · obtain ⟨ks, s3, s4, s5, s6, s7, s8, s9, hr, hk, hl, rfl⟩ := h
    obtain ⟨k, rfl, k1, k2⟩ := hr x List.mem_cons_self
    have hl : ks.length + (r.length + 1) ≤ 8 := hl
    simp only [rS, rE, rEs, rB, rV, rZ, rC, rI, rU, rP, rQ, rL, rM, if_true]
    refine ⟨rfl, rfl, pile_ok ns k1 k2 _ _ fun o p => ?_⟩
    simp only [rS, rE, rEs, rB, rV, rZ, rC, rI, rU, rP, rQ, rL, rM, if_true]
    refine bare _ p (by omega) _ fun d s4 s5 s6 s7 s8 s9 hd => ?_
    refine ⟨ks ++ [d], _, _, _, _, _, _, _, fun y hy => hr y (List.mem_cons_of_mem _ hy), fun z hz => ?_, by rw [List.length_append]; simp only [List.length_cons, List.length_nil]; omega, rfl⟩
    rcases List.mem_append.mp hz with hz | hz
    · exact hk z hz
    · rw [List.mem_singleton.mp hz]; exact hd
  · obtain ⟨ks, s3, s4, s5, s6, s7, s8, s9, _, hk, _, rfl⟩ := h
    refine e0 hk _ fun e => ?_
    rfl
  · rw [show (8 : Int).toNat = 8 from rfl] at hx
    have : ∀ (n : Nat) (a : Int), 0 ≤ a → a + n ≤ 100 → ∀ x ∈ rngI a n, ∃ k : Int, x = .int k ∧ 0 ≤ k ∧ k ≤ 100 := by
      intro n
      induction n with
      | zero => intro a _ _ x hx; cases hx
      | succ n ih =>
        intro a h0 h1 x hx
        rcases List.mem_cons.mp (show x ∈ PyData.int a :: rngI (a + 1) n from hx) with rfl | hx
        · exact ⟨a, rfl, h0, by omega⟩
        · exact ih (a + 1) (by omega) (by omega) x hx
    exact this 8 0 (by decide) (by decide) x hx
theorem law_true (ns : List Int) (_ : ns.length ≤ 63) : ∃ o, f_law.run [] [.dict [(.none, .list (ns.map PyData.int))]] = .ret (.d (.bool true)) o := wF_true (law_ok ns)
end K06


set_option maxRecDepth 100000 in
set_option maxHeartbeats 0 in
theorem PySem.Challenge.cw_leapfolk_k95_refusals_made_holds : PySem.Challenge.rw_leapfolk_k95_refusals_made.Holds := by
  exact K06.head K06.law_true
