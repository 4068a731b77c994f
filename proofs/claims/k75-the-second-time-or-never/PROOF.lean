import PyProof.Rows.All
import Wide.All
import OpenK.AllK
import Wide.FinOn
import PySem.Challenge.RW_leapfolk_k75_whole_the_second_time_or_ne
import HandS.ForMost
import HandS.ForExc
import HandS.Flow
import HandS.Deep
import HandS.Conv
import HandS.IsInst
import HandS.Wide
import HandS.TupAny
import HandS.TupMul
import HandS.Zip
import HandS.Rev
import HandS.SortInts
import HandS.Style
import KE.KStateDown
import Lean
import HandS.Head0
import HandS.Head1
import HandS.Head2
import HandS.HeadEnd
import HandS.HeadHook1
import HandS.HeadHook2
import HandS.Lambda
import HandS.EndTab
import HandS.ExcIs
import HandS.Defaults
import HandS.CallSlots
import KE.KDictZip
import HandS.GenList
set_option Elab.async false
set_option linter.all false
set_option maxRecDepth 100000
/-! DLP: what the head looks at: the classes of exceptions, the built-in names, the Hook. -/
namespace DL
open PySem PySem.Spec PyProof.Rows L2
/-! ### the house's exceptions -/
def exNames : List Str := ["FolkError", "NoYard", "NoStanding", "NoLeap", "NoRow", "NoVector", "NoReading", "NoWishes", "NoCell", "NoTable", "NoNumber", "NoPerson", "TooMany"]
/-- whether an exception of the class k is one of the class c -/
def exSub (k c : Str) : Bool := k == c || c == ("FolkError" : Str) || c == ("ValueError" : Str)
/-- the built-in names that terms may use -/
def bNames : List Str := ["len", "abs", "int", "all", "any", "sum", "tuple", "list", "min", "max", "isinstance", "sorted", "bool", "str", "zip", "enumerate", "range", "reversed"]
def ecB (K : PySem.W.Frag) (D : Addr) : Bool := decide (PySem.W.findIn K (.ref D) "__getattribute__" = some (some (.builtin "BaseException.__getattribute__"))) && (decide (PySem.W.findIn K (.ref D) "__getattr__" = some none) && (decide (PySem.W.subIn K (.ref D) (.type "BaseException") = some true) &&
  (PySem.W.hasDictIn K D && (decide (PySem.W.findIn K (.ref D) "__class__" = some (some (.builtin "object.__class__"))) && (decide (PySem.W.specialIn K (.builtin "object.__class__") "__get__" = some (some (.builtin "getset_descriptor.__get__"))) &&
  (decide (PySem.W.takesIn K (.builtin "object.__class__") = some true) && decide (PySem.W.mroIn K D (.type "object") = some true)))))))
def exB2 (K : PySem.W.Frag) (k : Str) (C : Addr) (c : Str) : Bool := match PySem.W.nsIn K mainGlobals c with
  | some none => true
  | some (some (.ref D)) => decide (PySem.W.kitOne K (.ref C) (.ref D) = some (exSub k c)) && decide (PySem.W.exmOne K (.ref C) (.ref D) = some (exSub k c))
  | _ => false
def exB1 (K : PySem.W.Frag) (k : Str) : Bool := match PySem.W.nsIn K mainGlobals k with
  | some none => true
  | some (some (.ref C)) => ecB K C && (decide (PySem.W.kitOne K (.ref C) (.type "ValueError") = some true) && (decide (PySem.W.kitOne K (.type "NoneType") (.ref C) = some false) && exNames.all (exB2 K k C)))
  | _ => false
def exB (K : PySem.W.Frag) : Bool := exNames.all (exB1 K)
/-- what the head shows: the defs, the names, the exceptions -/
abbrev AlX : Type := He.AlD × Bool
def obsX (n : Nat) (fa : List He.Fa) (fn : List He.DefD) (g : Addr → Option Obj) : AlX := (He.obsDG n fa fn g, exB (He.frG g (He.asD g n)))
def hookX (n : Nat) (fa : List He.Fa) (fn : List He.DefD) : PySem.W.Hook where
  α := AlX
  obs s := obsX n fa fn s.heap.get?
  val _ := (He.valD fn, true)
  says _ h := ∃ K : PySem.W.Frag, K.In h ∧ He.SaysD fa fn K ∧ exB K = true
  of _ _ e := ⟨_, He.frG_in, congrArg (fun z : AlX => z.1) e, congrArg (fun z : AlX => z.2) e⟩
  keeps _ _ _ z k := z.elim fun K z => ⟨K, PySem.W.Frag.In.keeps z.1 k, z.2⟩
theorem obsX_eq {n : Nat} {fa : List He.Fa} {fn : List He.DefD} {g : Addr → Option Obj} {s : Shared} (h : ∀ a, g a = s.heap.get? a) : obsX n fa fn g = (hookX n fa fn).obs s := by
  have e : g = s.heap.get? := funext h
  rw [e]
  rfl
end DL


set_option Elab.async false
set_option linter.all false
set_option maxRecDepth 100000
set_option maxHeartbeats 0
namespace K06
open PySem PySem.Spec PyProof.Rows L2 DL
def top (i : Nat) : Stmt := PySem.Challenge.pw_leapfolk_k75_whole_the_second_time_or_ne.main.body.getD i (.Pass ⟨0, 0, 0, 0⟩)
/-! the table -/
def rest_0 : List He.Fa := [.glo "_law_pile", .glo "_law_mixed", .glo "_law_take", .glo "_law_leap", .glo "_law_great", .glo "_law_run", .glo "_law_row", .glo "_law_number", .glo "_law_vector", .glo "_law_put", .glo "_law_round", .glo "_law_standing", .glo "_law_swinging", .glo "is_whole", .glo "are_ways", .glo "are_persons", .glo "are_posts", .glo "yard_wrong", .glo "must_be_yard", .glo "is_vector", .glo "is_point", .glo "standing_in", .glo "must_be_standing", .glo "is_leap", .glo "unit", .glo "table_of", .glo "change_of", .glo "product", .glo "go_steadily", .glo "run_in"]
def rest_1 : List He.Fa := [.glo "row_in", .glo "must_be_row", .glo "table_of_row", .glo "round_about", .glo "run_through", .glo "on_lines", .glo "led_by_table", .glo "again", .glo "done", .glo "back_row", .glo "back", .glo "_law_lines_right", .glo "_law_whole", .glo "_law_round_so", .glo "_law_divisor", .glo "_law_least", .glo "law", .int "MOST" 10000, .int "MOST_LEAPS" 40, .int "MOST_PERSONS" 6, .int "MOST_WAYS" 3, .glo "NoNumber", .exc "NoNumber", .glo "NoRow", .exc "NoRow", .glo "NoStanding", .exc "NoStanding", .glo "NoYard", .exc "NoYard"]
def rest : List He.Fa := rest_0 ++ rest_1
def fns_0 : List He.DefD := [⟨("_law_pile", none), "_law_pile", "_law_pile", defArgs (top 45), defBody (top 45), defScope (top 45), [], []⟩, ⟨("_law_mixed", none), "_law_mixed", "_law_mixed", defArgs (top 44), defBody (top 44), defScope (top 44), [], []⟩, ⟨("_law_take", none), "_law_take", "_law_take", defArgs (top 46), defBody (top 46), defScope (top 46), [], []⟩, ⟨("_law_leap", none), "_law_leap", "_law_leap", defArgs (top 53), defBody (top 53), defScope (top 53), [], []⟩, ⟨("_law_great", none), "_law_great", "_law_great", defArgs (top 47), defBody (top 47), defScope (top 47), [], []⟩, ⟨("_law_run", none), "_law_run", "_law_run", defArgs (top 54), defBody (top 54), defScope (top 54), [], []⟩, ⟨("_law_row", none), "_law_row", "_law_row", defArgs (top 55), defBody (top 55), defScope (top 55), [], []⟩, ⟨("_law_number", none), "_law_number", "_law_number", defArgs (top 48), defBody (top 48), defScope (top 48), [], []⟩, ⟨("_law_vector", none), "_law_vector", "_law_vector", defArgs (top 49), defBody (top 49), defScope (top 49), [], []⟩, ⟨("_law_put", none), "_law_put", "_law_put", defArgs (top 50), defBody (top 50), defScope (top 50), [], []⟩, ⟨("_law_round", none), "_law_round", "_law_round", defArgs (top 51), defBody (top 51), defScope (top 51), [], []⟩, ⟨("_law_standing", none), "_law_standing", "_law_standing", defArgs (top 52), defBody (top 52), defScope (top 52), [], []⟩, ⟨("_law_swinging", none), "_law_swinging", "_law_swinging", defArgs (top 58), defBody (top 58), defScope (top 58), [], []⟩, ⟨("is_whole", none), "is_whole", "is_whole", defArgs (top 13), defBody (top 13), defScope (top 13), [], []⟩, ⟨("are_ways", none), "are_ways", "are_ways", defArgs (top 14), defBody (top 14), defScope (top 14), [], []⟩, ⟨("are_persons", none), "are_persons", "are_persons", defArgs (top 15), defBody (top 15), defScope (top 15), [], []⟩, ⟨("are_posts", none), "are_posts", "are_posts", defArgs (top 16), defBody (top 16), defScope (top 16), [], []⟩, ⟨("yard_wrong", none), "yard_wrong", "yard_wrong", defArgs (top 17), defBody (top 17), defScope (top 17), [], []⟩, ⟨("must_be_yard", none), "must_be_yard", "must_be_yard", defArgs (top 18), defBody (top 18), defScope (top 18), [], []⟩, ⟨("is_vector", none), "is_vector", "is_vector", defArgs (top 19), defBody (top 19), defScope (top 19), [], []⟩, ⟨("is_point", none), "is_point", "is_point", defArgs (top 20), defBody (top 20), defScope (top 20), [], []⟩, ⟨("standing_in", none), "standing_in", "standing_in", defArgs (top 21), defBody (top 21), defScope (top 21), [], []⟩, ⟨("must_be_standing", none), "must_be_standing", "must_be_standing", defArgs (top 22), defBody (top 22), defScope (top 22), [], []⟩, ⟨("is_leap", none), "is_leap", "is_leap", defArgs (top 23), defBody (top 23), defScope (top 23), [], []⟩, ⟨("unit", none), "unit", "unit", defArgs (top 9), defBody (top 9), defScope (top 9), [], []⟩, ⟨("table_of", none), "table_of", "table_of", defArgs (top 27), defBody (top 27), defScope (top 27), [], []⟩, ⟨("change_of", none), "change_of", "change_of", defArgs (top 28), defBody (top 28), defScope (top 28), [], []⟩, ⟨("product", none), "product", "product", defArgs (top 8), defBody (top 8), defScope (top 8), [], []⟩, ⟨("go_steadily", none), "go_steadily", "go_steadily", defArgs (top 29), defBody (top 29), defScope (top 29), [], []⟩, ⟨("run_in", none), "run_in", "run_in", defArgs (top 30), defBody (top 30), defScope (top 30), [], []⟩]
def fns_1 : List He.DefD := [⟨("row_in", none), "row_in", "row_in", defArgs (top 31), defBody (top 31), defScope (top 31), [], []⟩, ⟨("must_be_row", none), "must_be_row", "must_be_row", defArgs (top 32), defBody (top 32), defScope (top 32), [], []⟩, ⟨("table_of_row", none), "table_of_row", "table_of_row", defArgs (top 34), defBody (top 34), defScope (top 34), [], []⟩, ⟨("round_about", none), "round_about", "round_about", defArgs (top 24), defBody (top 24), defScope (top 24), [], []⟩, ⟨("run_through", none), "run_through", "run_through", defArgs (top 33), defBody (top 33), defScope (top 33), [], []⟩, ⟨("on_lines", none), "on_lines", "on_lines", defArgs (top 41), defBody (top 41), defScope (top 41), [], []⟩, ⟨("led_by_table", none), "led_by_table", "led_by_table", defArgs (top 40), defBody (top 40), defScope (top 40), [], []⟩, ⟨("again", none), "again", "again", defArgs (top 42), defBody (top 42), defScope (top 42), [], [("most", .int 10000)]⟩, ⟨("done", none), "done", "done", defArgs (top 35), defBody (top 35), defScope (top 35), [], []⟩, ⟨("back_row", none), "back_row", "back_row", defArgs (top 36), defBody (top 36), defScope (top 36), [], []⟩, ⟨("back", none), "back", "back", defArgs (top 37), defBody (top 37), defScope (top 37), [], []⟩, ⟨("_law_lines_right", none), "_law_lines_right", "_law_lines_right", defArgs (top 60), defBody (top 60), defScope (top 60), [], []⟩, ⟨("_law_whole", none), "_law_whole", "_law_whole", defArgs (top 56), defBody (top 56), defScope (top 56), [], []⟩, ⟨("_law_round_so", none), "_law_round_so", "_law_round_so", defArgs (top 61), defBody (top 61), defScope (top 61), [], []⟩, ⟨("_law_divisor", none), "_law_divisor", "_law_divisor", defArgs (top 57), defBody (top 57), defScope (top 57), [], []⟩, ⟨("_law_least", none), "_law_least", "_law_least", defArgs (top 59), defBody (top 59), defScope (top 59), [], []⟩, ⟨("law", none), "law", "law", defArgs (top 62), defBody (top 62), defScope (top 62), [], []⟩]
def fns : List He.DefD := fns_0 ++ fns_1
abbrev fa : List He.Fa := bNames.map He.Fa.free ++ rest
abbrev Rw : PySem.W.OpenRow := PySem.W.OpenLaw.row PySem.Challenge.rw_leapfolk_k75_whole_the_second_time_or_ne
abbrev hk : PySem.W.Hook := hookX 2 fa fns
def ob (s : PySem.W.SharedT) : AlX := obsX 2 fa fns (HandSHeadRun.getT s)
theorem ob_eq (s : PySem.W.SharedT) : ob s = hk.obs s.abs := obsX_eq (HandSHeadRun.getT_eq s)
def names_0 : List Str := ["product", "unit", "is_whole", "are_ways", "are_persons", "are_posts", "yard_wrong", "must_be_yard", "is_vector", "is_point", "standing_in", "must_be_standing", "is_leap", "round_about", "table_of", "change_of", "go_steadily", "run_in", "row_in", "must_be_row", "run_through", "table_of_row", "done", "back_row", "back", "led_by_table", "on_lines", "again", "_law_mixed", "_law_pile"]
def names_1 : List Str := ["_law_take", "_law_great", "_law_number", "_law_vector", "_law_put", "_law_round", "_law_standing", "_law_leap", "_law_run", "_law_row", "_law_whole", "_law_divisor", "_law_swinging", "_law_least", "_law_lines_right", "_law_round_so", "FolkError", "NoYard", "NoStanding", "NoRow", "NoNumber", "TooMany", "MOST_WAYS", "MOST_PERSONS", "MOST_LEAPS", "MOST"]
def names : List Str := names_0 ++ names_1
open PySem.W PySem.Calls HandSHeadRun in
theorem run1 (w : World) (os : OsState) : (endF (stepQ (denQ tabQ) Rw.prog w) 20000 Rw.prog w os).map (fun s => looksF Rw.prog (boot_heap w.params) s.abs) = some true := by
  kernel_rfl
open PySem.W PySem.Calls HandSHeadRun in
theorem run2 (w : World) (os : OsState) : (endF (stepQ (denQ tabQ) Rw.prog w) 20000 Rw.prog w os).map (fun s => seenQ (PySem.W.view Rw.prog [62]) names (importedModules Rw.prog.main.body) (fun s => xlAt (PySem.W.view Rw.prog [62]) [] s && recOk Rw.toRowW.records s) s.abs) = some (openGood (PySem.W.view Rw.prog [62]) names) := by
  kernel_rfl
open PySem.W PySem.Calls HandSHeadRun in
theorem run3 (w : World) (os : OsState) : (endF (stepQ (denQ tabQ) Rw.prog w) 20000 Rw.prog w os).map ob = some (hk.val w) := by
  kernel_rfl
theorem map3 {α β γ δ : Type} {x : Option α} {f : α → β} {g : α → γ} {h : α → δ} {u : β} {v : γ} {z : δ} (a : x.map f = some u) (b : x.map g = some v) (c : x.map h = some z) : x.map (fun s => (f s, g s, h s)) = some (u, v, z) := by
  cases x with
  | none => cases a
  | some y =>
    have a := Option.some.inj a
    have b := Option.some.inj b
    have c := Option.some.inj c
    show some (f y, g y, h y) = _
    rw [a, b, c]
theorem run (w : World) : HandSHeadRun.RunEq Rw (PySem.W.view Rw.prog [62]) hk ob 20000 names w := fun os => map3 (run1 w os) (run2 w os) (run3 w os)

end K06


set_option Elab.async false
set_option linter.all false
set_option maxRecDepth 100000
/-! DL0: a small language of data (no heap): values, slots, terms, what they come to. -/
namespace DL
open PySem

abbrev D := PyData
/-- what an expression hands on: data, or a list of its own, just made -/
inductive DV where
  | d (x : D)
  | fr (xs : List D)
def DV.fz : DV → D
  | .d x => x
  | .fr xs => .list xs
/-- what stands in a slot -/
inductive Slot where
  | un
  | val (x : D)
  /-- a list of its own; p: the one that was handed in -/
  | own (p : Bool) (xs : List D)
abbrev Env := List Slot
/-- a list of one's own, looked at -/
def Slot.fz : Slot → Slot
  | .own _ xs => .val (.list xs)
  | s => s
inductive R (α : Type) where
  | ok (a : α) (e : Env)
  | exn (c : Str) (ps : List D) (e : Env)
  | bad
@[reducible] def R.bind {α β : Type} (r : R α) (f : α → Env → R β) : R β := match r with
  | .ok a e => f a e
  | .exn c ps e => .exn c ps e
  | .bad => .bad
/-- what a def's call comes to; o: the list that was handed in as its own -/
inductive FR where
  | ret (v : DV) (o : List D)
  | exn (c : Str) (ps : List D) (o : List D)
  | bad
structure Fn where
  name : Str
  own : Bool
  np : Nat
  run : List D → List D → FR

def lim : Nat := 1048576

def tru : D → Option Bool
  | .none => some false
  | .bool b => some b
  | .int i => some (i != 0)
  | .str x => if x.length ≤ lim then some ((x.length : Int) != 0) else none
  | .list xs => some (!xs.isEmpty)
  | .tuple xs => some (!xs.isEmpty)
  | .dict _ => none

inductive Bop where | add | sub | mul | fdiv | mod | pow
  deriving DecidableEq
inductive Cop where | eq | ne | lt | le | gt | ge | isn | notn | mem | nmem
  deriving DecidableEq
inductive Ty where | int | bool | str | tuple | list
  deriving DecidableEq
inductive Bi where | len | abs | int | all | any | sum | tuple | list | min | max | isi (t : Ty) | sorted
  deriving DecidableEq

def rep {α : Type} (n : Nat) (xs : List α) : List α := (List.replicate n xs).flatten
def bin : Bop → D → D → Option DV
  | .add, .int i, .int j => some (.d (.int (i + j)))
  | .add, .tuple xs, .tuple ys => if xs.length + ys.length ≤ lim then some (.d (.tuple (xs ++ ys))) else none
  | .add, .list xs, .list ys => if xs.length + ys.length ≤ lim then some (.fr (xs ++ ys)) else none
  | .add, .str x, .str y => if x.length + y.length ≤ lim then some (.d (.str (x ++ y))) else none
  | .sub, .int i, .int j => some (.d (.int (i - j)))
  | .mul, .int i, .int j => if i.natAbs < 2 ^ 64 ∨ j.natAbs < 2 ^ 64 ∨ i.natAbs.log2 + j.natAbs.log2 < 1000000 then some (.d (.int (i * j))) else none
  | .mul, .tuple xs, .int k => if k = 1 then some (.d (.tuple xs)) else if 2 ≤ k ∧ k ≤ 1000 ∧ xs.length ≤ 1000 ∧ xs ≠ [] then some (.d (.tuple (rep k.toNat xs))) else if -1000000 ≤ k ∧ k ≤ 0 ∧ xs ≠ [] then some (.d (.tuple [])) else none
  | .mul, .list xs, .int k => if -1000000 ≤ k ∧ k ≤ 1000000 ∧ xs.length * k.toNat ≤ lim then some (.fr (rep k.toNat xs)) else none
  | .fdiv, .int i, .int j => if j ≠ 0 ∧ j.natAbs.log2 < 9000 then some (.d (.int (i.fdiv j))) else none
  | .mod, .int i, .int j => if j ≠ 0 then some (.d (.int (i.fmod j))) else none
  | .pow, .int i, .int j => if 0 ≤ j ∧ j ≤ 1000000 ∧ i.natAbs < 2 ^ 64 then some (.d (.int (i ^ j.toNat))) else none
  | _, _, _ => none

def lay (d : D) : Bool := SeqAt.shaped d
def flat : D → Bool
  | .none | .bool _ | .int _ | .str _ => true
  | _ => false
def cmp : Cop → D → D → Option Bool
  | .eq, a, b => if lay a && lay b then some (PyData.eqv a b) else none
  | .ne, a, b => if lay a && lay b then some (!PyData.eqv a b) else none
  | .lt, .int i, .int j => some (decide (i < j))
  | .le, .int i, .int j => some (decide (i ≤ j))
  | .gt, .int i, .int j => some (decide (j < i))
  | .ge, .int i, .int j => some (decide (j ≤ i))
  | .isn, a, .none => some (match a with | .none => true | _ => false)
  | .notn, a, .none => some (match a with | .none => false | _ => true)
  | .mem, a, .list xs => if lay a && lay (.list xs) then some (xs.any fun z => PyData.eqv z a) else none
  | .nmem, a, .list xs => if lay a && lay (.list xs) then some (!xs.any fun z => PyData.eqv z a) else none
  | .mem, a, .tuple xs => if flat a && xs.all flat then some (xs.any fun z => PyData.eqv z a) else none
  | .nmem, a, .tuple xs => if flat a && xs.all flat then some (!xs.any fun z => PyData.eqv z a) else none
  | _, _, _ => none

def tyIs : Ty → D → Bool
  | .int, .int _ => true
  | .int, .bool _ => true
  | .bool, .bool _ => true
  | .str, .str _ => true
  | .tuple, .tuple _ => true
  | .list, .list _ => true
  | _, _ => false

/-- the ints of data, if they are all ints -/
def ints? : List D → Option (List Int)
  | [] => some []
  | .int i :: r => (ints? r).map (i :: ·)
  | _ :: _ => none
/-- the truths of plain data -/
def truF : D → Option Bool
  | .none => some false
  | .bool b => some b
  | .int i => some (i != 0)
  | _ => none
def trus? : List D → Option (List Bool)
  | [] => some []
  | d :: r => match truF d, trus? r with
    | some b, some bs => some (b :: bs)
    | _, _ => none
def maxI : List Int → Int
  | [] => 0
  | [x] => x
  | x :: y :: r => let m := maxI (y :: r); if m < x then x else m
def minI : List Int → Int
  | [] => 0
  | [x] => x
  | x :: y :: r => let m := minI (y :: r); if x < m then x else m
def insI (x : Int) : List Int → List Int
  | [] => [x]
  | y :: r => if x ≤ y then x :: y :: r else y :: insI x r
def srtI : List Int → List Int
  | [] => []
  | x :: r => insI x (srtI r)

def bi : Bi → List D → Option DV
  | .len, [.list xs] => some (.d (.int xs.length))
  | .len, [.tuple xs] => some (.d (.int xs.length))
  | .len, [.dict [(.none, .list xs)]] => some (.d (.int xs.length))
  | .len, [.str x] => if x.length ≤ lim then some (.d (.int x.length)) else none
  | .abs, [.int i] => some (.d (.int (if i < 0 then -i else i)))
  | .int, [.int i] => some (.d (.int i))
  | .int, [.bool b] => some (.d (.int (if b then 1 else 0)))
  | .all, [.list xs] => (trus? xs).map fun bs => .d (.bool (bs.all id))
  | .any, [.list xs] => (trus? xs).map fun bs => .d (.bool (bs.any id))
  | .all, [.tuple xs] => (trus? xs).map fun bs => .d (.bool (bs.all id))
  | .any, [.tuple xs] => (trus? xs).map fun bs => .d (.bool (bs.any id))
  | .sum, [.list xs] => (ints? xs).map fun ns => .d (.int ns.sum)
  | .sum, [.tuple xs] => (ints? xs).map fun ns => .d (.int ns.sum)
  | .tuple, [.list xs] => some (.d (.tuple xs))
  | .tuple, [.tuple xs] => some (.d (.tuple xs))
  | .list, [.list xs] => some (.fr xs)
  | .list, [.tuple xs] => some (.fr xs)
  | .min, [.int i, .int j] => some (.d (.int (if j < i then j else i)))
  | .max, [.int i, .int j] => some (.d (.int (if j > i then j else i)))
  | .max, [.list xs] => match ints? xs with
    | some (x :: r) => some (.d (.int (maxI (x :: r))))
    | _ => none
  | .min, [.list xs] => match ints? xs with
    | some (x :: r) => some (.d (.int (minI (x :: r))))
    | _ => none
  | .max, [.tuple xs] => match ints? xs with
    | some (x :: r) => some (.d (.int (maxI (x :: r))))
    | _ => none
  | .min, [.tuple xs] => match ints? xs with
    | some (x :: r) => some (.d (.int (minI (x :: r))))
    | _ => none
  | .isi _, [.dict _] => none
  | .isi t, [a] => some (.d (.bool (tyIs t a)))
  | .sorted, [.list xs] => (ints? xs).map fun ns => .fr ((srtI ns).map .int)
  | _, _ => none

def ix : D → D → Option D
  | .list xs, .int i => L2.atI xs i
  | .tuple xs, .int i => L2.atI xs i
  | .dict [(.none, .list xs)], .int i => L2.atI xs i
  | _, _ => none
def cut {α : Type} (xs : List α) (lo hi : Option Int) : List α :=
  (xs.drop (HT.sIx xs.length 0 lo)).take (HT.sIx xs.length xs.length hi - HT.sIx xs.length 0 lo)
def sl (a : D) (lo hi : Option Int) : Option DV := match a with
  | .list xs => some (.fr (cut xs lo hi))
  | .tuple xs => some (.d (.tuple (cut xs lo hi)))
  | _ => none
def revSl : D → Option DV
  | .list xs => some (.fr xs.reverse)
  | .tuple xs => some (.d (.tuple xs.reverse))
  | _ => none
def items? : D → Option (List D)
  | .list xs => some xs
  | .tuple xs => some xs
  | _ => none

/-- a target -/
inductive Tg where
  | nm (i : Nat)
  | tp (ts : List Tg)
mutual
def bindT : Tg → D → Env → Option Env
  | .nm i, x, e => some (e.set i (.val x))
  | .tp ts, .tuple xs, e => bindTs ts xs e
  | .tp ts, .list xs, e => bindTs ts xs e
  | .tp _, _, _ => none
def bindTs : List Tg → List D → Env → Option Env
  | [], [], e => some e
  | t :: ts, x :: xs, e => match bindT t x e with
    | some e1 => bindTs ts xs e1
    | none => none
  | _, _, _ => none
end

/-- an exception as data -/
def exD (c : Str) (ps : List D) : D := .dict [(.str c, .tuple ps)]
def isX (c : Str) : D → Option Bool
  | .dict [(.str k, .tuple [])] => if exNames.contains k && (exNames.contains c || c == ("ValueError" : Str)) then some (exSub k c) else none
  | .none => if exNames.contains c || c == ("ValueError" : Str) then some false else none
  | _ => none

mutual
inductive Ex where
  | lit (c : D)
  | v (i : Nat)
  | frz (i : Nat)
  | tk (i : Nat)
  | oix (i : Nat) (b : Ex)
  | oadd (a : Ex) (i : Nat)
  | olen (i : Nat)
  /-- a look at lists of one's own: the answer is flat -/
  | peek (a : Ex)
  /-- list(x), x a list of one's own -/
  | olst (i : Nat)
  | gl (k : Nat)
  | bin (o : Bop) (a b : Ex)
  | neg (a : Ex)
  | no (a : Ex)
  | cmp (o : Cop) (a b : Ex)
  | chn (o p : Cop) (a b c : Ex)
  | and (a b : Ex)
  | or (a b : Ex)
  | ife (c a b : Ex)
  | tup (es : Exs)
  | lst (es : Exs)
  | ix (a b : Ex)
  | sl (a : Ex) (lo hi : Op)
  | rsl (a : Ex)
  | isx (a : Ex) (c : Str)
  | bi (f : Bi) (es : Exs)
  | lit_ (it : It)
  | call (k : Nat) (es : Exs)
  | callo (k i : Nat) (es : Exs)
  | callk (k : Nat) (es : Exs) (a : Ex)
  | comp (e : Ex) (vs : List Nat) (g : Tg) (it : It) (c : Op)
inductive Exs where
  | nil
  | cons (e : Ex) (es : Exs)
inductive Op where
  | non
  | som (e : Ex)
inductive It where
  | seq (e : Ex)
  | zip (strict : Bool) (es : Exs)
  | enum (it : It)
  | rng (es : Exs)
  | rev (e : Ex)
end

/-- zip of lists of items -/
def zipAll : List (List D) → List D
  | [xs, ys] => (xs.zip ys).map fun p => .tuple [p.1, p.2]
  | [xs, ys, zs] => (xs.zip (ys.zip zs)).map fun p => .tuple [p.1, p.2.1, p.2.2]
  | _ => []
def zipD (strict : Bool) (as : List D) : Option (List D) := match as.map items? with
  | [some xs, some ys] => if strict = true → xs.length = ys.length then some (zipAll [xs, ys]) else none
  | [some xs, some ys, some zs] => if strict = true → (xs.length = ys.length ∧ xs.length = zs.length) then some (zipAll [xs, ys, zs]) else none
  | _ => none
def enumD : Nat → List D → List D
  | _, [] => []
  | i, x :: r => .tuple [.int i, x] :: enumD (i + 1) r
def rngI (a : Int) : Nat → List D
  | 0 => []
  | n + 1 => .int a :: rngI (a + 1) n
def big (i : Int) : Bool := decide (-1000000000 ≤ i) && decide (i ≤ 1000000000)
def rngD : List D → Option (List D)
  | [.int j] => if big j then some (rngI 0 j.toNat) else none
  | [.int i, .int j] => if big i && big j then some (rngI i (j - i).toNat) else none
  | _ => none

/-- a comprehension's turns: f an item's value, or none where its test says no -/
def compGo (f : D → Env → R (Option D)) : List D → Env → R (List D)
  | [], e => .ok [] e
  | x :: xs, e => match f x e with
    | .ok o e1 => match compGo f xs e1 with
      | .ok ys e2 => .ok (match o with | some y => y :: ys | none => ys) e2
      | _ => .bad
    | _ => .bad
def wipeE (e : Env) : List Nat → Env
  | [] => e
  | v :: vs => (wipeE e vs).set v .un
/-- no slot of these holds a list of its own -/
def plainAt (e : Env) (vs : List Nat) : Bool := vs.all fun i => match e[i]? with
  | some (.own _ _) => false
  | _ => true
/-- the slots of these put back as they were -/
def putBack (e0 e : Env) : List Nat → Env
  | [] => e
  | v :: vs => match e0[v]? with
    | some s => (putBack e0 e vs).set v s
    | none => putBack e0 e vs

def toR {α : Type} (o : Option α) (e : Env) : R α := match o with
  | some a => .ok a e
  | none => .bad
def dvOk : DV → Bool
  | .d (.tuple xs) => decide (xs.length ≤ lim)
  | .d _ => true
  | .fr xs => decide (xs.length ≤ lim)

section
variable (G : List D) (Γ : List Fn)
mutual
def evE : Ex → Env → R DV
  | .lit c, e => .ok (.d c) e
  | .v i, e => match e[i]? with
    | some (.val x) => .ok (.d x) e
    | _ => .bad
  | .frz i, e => match e[i]? with
    | some (.own false xs) => .ok (.d (.list xs)) (e.set i (.val (.list xs)))
    | _ => .bad
  | .tk i, e => match e[i]? with
    | some (.own false xs) => .ok (.fr xs) (e.set i .un)
    | _ => .bad
  | .oix i b, e => match e[i]? with
    | some (.own _ _) => (evE b e).bind fun k e1 => match e1[i]? with
      | some (.own _ xs) => toR ((ix (.list xs) k.fz).map .d) e1
      | _ => .bad
    | _ => .bad
  | .oadd a i, e => (evE a e).bind fun x e1 => match e1[i]? with
    | some (.own _ ys) => toR (bin .add x.fz (.list ys)) e1
    | _ => .bad
  | .olen i, e => match e[i]? with
    | some (.own _ xs) => .ok (.d (.int xs.length)) e
    | _ => .bad
  | .peek a, e => match evE a (e.map Slot.fz) with
    | .ok x _ => if flat x.fz then .ok (.d x.fz) e else .bad
    | .exn c [] _ => .exn c [] e
    | _ => .bad
  | .olst i, e => match e[i]? with
    | some (.own _ xs) => .ok (.fr xs) e
    | _ => .bad
  | .gl k, e => match G[k]? with
    | some x => .ok (.d x) e
    | none => .bad
  | .bin o a b, e => (evE a e).bind fun x e1 => (evE b e1).bind fun y e2 => toR (bin o x.fz y.fz) e2
  | .neg a, e => (evE a e).bind fun x e1 => match x.fz with
    | .int i => .ok (.d (.int (-i))) e1
    | _ => .bad
  | .no a, e => (evE a e).bind fun x e1 => match tru x.fz with
    | some b => .ok (.d (.bool (!b))) e1
    | none => .bad
  | .cmp o a b, e => (evE a e).bind fun x e1 => (evE b e1).bind fun y e2 => toR ((cmp o x.fz y.fz).map fun b => .d (.bool b)) e2
  | .chn o p a b c, e => (evE a e).bind fun x e1 => (evE b e1).bind fun y e2 => match cmp o x.fz y.fz with
    | some true => (evE c e2).bind fun z e3 => toR ((cmp p y.fz z.fz).map fun b => .d (.bool b)) e3
    | some false => .ok (.d (.bool false)) e2
    | none => .bad
  | .and a b, e => (evE a e).bind fun x e1 => match tru x.fz with
    | some true => (evE b e1).bind fun y e2 => .ok (.d y.fz) e2
    | some false => .ok (.d x.fz) e1
    | none => .bad
  | .or a b, e => (evE a e).bind fun x e1 => match tru x.fz with
    | some false => (evE b e1).bind fun y e2 => .ok (.d y.fz) e2
    | some true => .ok (.d x.fz) e1
    | none => .bad
  | .ife c a b, e => (evE c e).bind fun x e1 => match tru x.fz with
    | some true => (evE a e1).bind fun y e2 => .ok (.d y.fz) e2
    | some false => (evE b e1).bind fun y e2 => .ok (.d y.fz) e2
    | none => .bad
  | .tup es, e => (evEs es e).bind fun xs e1 => if xs.length ≤ lim then .ok (.d (.tuple xs)) e1 else .bad
  | .lst es, e => (evEs es e).bind fun xs e1 => if xs.length ≤ lim then .ok (.fr xs) e1 else .bad
  | .ix a b, e => (evE a e).bind fun x e1 => (evE b e1).bind fun y e2 => toR ((ix x.fz y.fz).map .d) e2
  | .sl a lo hi, e => (evE a e).bind fun x e1 => (evOp lo e1).bind fun i e2 => (evOp hi e2).bind fun j e3 => toR (sl x.fz i j) e3
  | .rsl a, e => (evE a e).bind fun x e1 => toR (revSl x.fz) e1
  | .isx a c, e => (evE a e).bind fun x e1 => toR ((isX c x.fz).map fun b => .d (.bool b)) e1
  | .bi f es, e => (evEs es e).bind fun xs e1 => toR (bi f xs) e1
  | .lit_ it, e => (evIt it e).bind fun xs e1 => if xs.length ≤ lim then .ok (.fr xs) e1 else .bad
  | .call k es, e => (evEs es e).bind fun xs e1 => match Γ[k]? with
    | some f => if f.own = false ∧ f.np = xs.length then (match f.run [] xs with
      | .ret v _ => .ok v e1
      | .exn c ps _ => .exn c ps e1
      | .bad => .bad) else .bad
    | none => .bad
  | .callk k es a, e => (evEs es e).bind fun xs e1 => (evE a e1).bind fun y e2 => match Γ[k]? with
    | some f => if f.own = false ∧ f.np = xs.length + 1 then (match f.run [] (xs ++ [y.fz]) with
      | .ret v _ => .ok v e2
      | .exn c ps _ => .exn c ps e2
      | .bad => .bad) else .bad
    | none => .bad
  | .callo k i es, e => match e[i]? with
    | some (.own _ _) => (evEs es e).bind fun xs e1 => match Γ[k]?, e1[i]? with
      | some f, some (.own p o) => if f.own = true ∧ f.np = xs.length + 1 then (match f.run o xs with
        | .ret v o' => .ok v (e1.set i (.own p o'))
        | .exn c ps o' => .exn c ps (e1.set i (.own p o'))
        | .bad => .bad) else .bad
      | _, _ => .bad
    | _ => .bad
  | .comp x vs g it c, e => (evIt it e).bind fun xs e1 => if plainAt e1 vs then
      (match compGo (fun z e2 => match bindT g z (wipeE e2 vs) with
        | none => .bad
        | some e3 => (evOpT c e3).bind fun b e4 => if b then (evE x e4).bind fun y e5 => .ok (some y.fz) e5 else .ok none e4) xs (wipeE e1 vs) with
      | .ok ys e6 => if ys.length ≤ lim then .ok (.fr ys) (putBack e1 e6 vs) else .bad
      | _ => .bad) else .bad
def evEs : Exs → Env → R (List D)
  | .nil, e => .ok [] e
  | .cons a as, e => (evE a e).bind fun x e1 => (evEs as e1).bind fun xs e2 => .ok (x.fz :: xs) e2
/-- a slice's bound -/
def evOp : Op → Env → R (Option Int)
  | .non, e => .ok none e
  | .som a, e => (evE a e).bind fun x e1 => match x.fz with
    | .int i => .ok (some i) e1
    | _ => .bad
/-- a comprehension's test -/
def evOpT : Op → Env → R Bool
  | .non, e => .ok true e
  | .som a, e => (evE a e).bind fun x e1 => toR (tru x.fz) e1
def evIt : It → Env → R (List D)
  | .seq a, e => (evE a e).bind fun x e1 => toR (items? x.fz) e1
  | .zip s es, e => (evEs es e).bind fun xs e1 => toR (zipD s xs) e1
  | .enum it, e => (evIt it e).bind fun xs e1 => .ok (enumD 0 xs) e1
  | .rng es, e => (evEs es e).bind fun xs e1 => toR (rngD xs) e1
  | .rev a, e => (evE a e).bind fun x e1 => toR ((items? x.fz).map List.reverse) e1
end
end

/-- what a statement comes to -/
inductive RS where
  | nx (e : Env)
  | bk (e : Env)
  | ct (e : Env)
  | rt (v : DV) (e : Env)
  | exn (c : Str) (ps : List D) (e : Env)
  | bad
@[reducible] def R.thn {α : Type} (r : R α) (f : α → Env → RS) : RS := match r with
  | .ok a e => f a e
  | .exn c ps e => .exn c ps e
  | .bad => .bad
@[reducible] def RS.thn (r : RS) (f : Env → RS) : RS := match r with
  | .nx e => f e
  | r => r

mutual
inductive Sx where
  | asg (t : Tg) (e : Ex)
  | own (i : Nat) (e : Ex)
  | seti (i : Nat) (k e : Ex)
  | app (i : Nat) (e : Ex)
  | aug (i : Nat) (o : Bop) (e : Ex)
  | ife (c : Ex) (a b : Sxs)
  | for_ (g : Tg) (it : It) (b : Sxs)
  | whil (fuel : Env → Nat) (c : Ex) (b : Sxs)
  | ret (e : Ex)
  | retn
  | rai (c : Str) (es : Exs)
  | ex (e : Ex)
  | pass
  | brk
  | cnt
  /-- try: b; except c as slot i: slot j = slot i -/
  | tryc (b : Sxs) (c : Str) (i j : Nat)
  /-- a statement that isn't reached -/
  | unk
inductive Sxs where
  | nil
  | cons (s : Sx) (ss : Sxs)
end

/-- what an exception comes to at a clause «except c as i: j = i» -/
def catR (c : Str) (i j : Nat) (k : Str) (ps : List D) (e1 : Env) : RS := if exNames.contains k then (if exSub k c then (match ps with
  | [] => if i < e1.length then .nx (((e1.set i (.val (exD k []))).set j (.val (exD k []))).set i .un) else .bad
  | _ => .bad) else .exn k ps e1) else .bad
def forGo (g : Tg) (f : Env → RS) : List D → Env → RS
  | [], e => .nx e
  | x :: xs, e => match bindT g x e with
    | none => .bad
    | some e1 => match f e1 with
      | .nx e2 => forGo g f xs e2
      | .ct e2 => forGo g f xs e2
      | .bk e2 => .nx e2
      | .rt v e2 => .rt v e2
      | .exn c ps e2 => .exn c ps e2
      | .bad => .bad
def whileGo (c : Env → R Bool) (f : Env → RS) : Nat → Env → RS
  | 0, _ => .bad
  | n + 1, e => (c e).thn fun b e1 => if b then (match f e1 with
      | .nx e2 => whileGo c f n e2
      | .ct e2 => whileGo c f n e2
      | .bk e2 => .nx e2
      | .rt v e2 => .rt v e2
      | .exn c ps e2 => .exn c ps e2
      | .bad => .bad) else .nx e1

section
variable (G : List D) (Γ : List Fn)
def evT (a : Ex) (e : Env) : R Bool := (evE G Γ a e).bind fun x e1 => toR (tru x.fz) e1
mutual
def evS : Sx → Env → RS
  | .asg t a, e => (evE G Γ a e).thn fun x e1 => match bindT t x.fz e1 with
    | some e2 => .nx e2
    | none => .bad
  | .own i a, e => (evE G Γ a e).thn fun x e1 => match x with
    | .fr xs => .nx (e1.set i (.own false xs))
    | .d _ => .bad
  | .seti i k a, e => (evE G Γ a e).thn fun x e1 => match e1[i]? with
    | some (.own _ _) => (evE G Γ k e1).thn fun j e2 => match e2[i]?, j.fz with
      | some (.own p xs), .int n => match L2.ixN xs.length n with
        | some m => .nx (e2.set i (.own p (xs.set m x.fz)))
        | none => .bad
      | _, _ => .bad
    | _ => .bad
  | .app i a, e => match e[i]? with
    | some (.own _ _) => (evE G Γ a e).thn fun x e1 => match e1[i]? with
      | some (.own p xs) => if xs.length < lim then .nx (e1.set i (.own p (xs ++ [x.fz]))) else .bad
      | _ => .bad
    | _ => .bad
  | .aug i o a, e => match e[i]? with
    | some (.val y) => (evE G Γ a e).thn fun x e1 => match bin o y x.fz with
      | some (.d z) => .nx (e1.set i (.val z))
      | _ => .bad
    | _ => .bad
  | .ife c a b, e => (evT G Γ c e).thn fun x e1 => if x then evSs a e1 else evSs b e1
  | .for_ g it b, e => (evIt G Γ it e).thn fun xs e1 => forGo g (evSs b) xs e1
  | .whil n c b, e => whileGo (evT G Γ c) (evSs b) (n e) e
  | .ret a, e => (evE G Γ a e).thn fun x e1 => .rt x e1
  | .retn, e => .rt (.d .none) e
  | .rai c es, e => (evEs G Γ es e).thn fun xs e1 => .exn c xs e1
  | .ex a, e => (evE G Γ a e).thn fun _ e1 => .nx e1
  | .pass, e => .nx e
  | .brk, e => .bk e
  | .cnt, e => .ct e
  | .tryc b c i j, e => match evSs b e with
    | .exn k ps e1 => catR c i j k ps e1
    | r => r
  | .unk, _ => .bad
def evSs : Sxs → Env → RS
  | .nil, e => .nx e
  | .cons s ss, e => match evS s e with
    | .nx e1 => evSs ss e1
    | r => r
end
/-- a def: its slots, its parameters first -/
def evF (own : Bool) (n : Nat) (b : Sxs) (o : List D) (xs : List D) : FR :=
  let ps : Env := (if own then [Slot.own true o] else []) ++ xs.map Slot.val
  let fin (e : Env) (f : List D → FR) : FR := if own then (match (e[0]? : Option Slot) with | some (Slot.own true o') => f o' | _ => FR.bad) else f []
  match evSs G Γ b (ps ++ List.replicate (n - ps.length) .un) with
  | .nx e => fin e (.ret (.d .none))
  | .rt v e => fin e (.ret v)
  | .exn c ps e => fin e (.exn c ps)
  | _ => .bad
end
end DL


set_option Elab.async false
set_option linter.all false
set_option maxRecDepth 100000
set_option maxHeartbeats 1000000
/-! DL1: what data stands at a value (Den), a frame's slots (Rel), what a term's evaluation promises (tE). -/
namespace DL
open PySem PySem.Spec PyProof.Rows L2

/-- how exceptions are held; the tables of code objects that may grow, by their names -/
structure XO where
  x : Str → Option Addr → HO → Prop
  T : List (Addr × Str)
instance : CoeFun XO fun _ => Str → Option Addr → HO → Prop := ⟨XO.x⟩
mutual
/-- data at a value, over a heap -/
inductive Den (K : PySem.W.Frag) (xo : XO) (H : Hp) : V → D → Prop
  | non : Den K xo H .non .none
  | bl (b : Bool) : Den K xo H (.bl b) (.bool b)
  | int (i : Int) : Den K xo H (.int i) (.int i)
  | str (x : Str) : Den K xo H (.str x) (.str x)
  /-- the script itself: read, never written -/
  | scr {a : Addr} {xs : List V} {ds : List D} : SqL K H a xs → DenAll K xo H xs ds → Den K xo H (.ref a) (.dict [(.none, .list ds)])
  | lst {a : Addr} {xs : List V} {ds : List D} : H a = some (.lst xs) → DenAll K xo H xs ds → Den K xo H (.ref a) (.list ds)
  | tup {a : Addr} {xs : List V} {ds : List D} : SqT K H a xs → DenAll K xo H xs ds → Den K xo H (.ref a) (.tuple ds)
  | exc0 {a : Addr} {o : HO} {c : Str} : H a = some o → xo c none o → Den K xo H (.ref a) (.dict [(.str c, .tuple [])])
  | exc1 {a dx : Addr} {o : HO} {c f : Str} {v : V} {p : D} : H a = some o → xo c (some dx) o → H dx = some (.xd [(f, v)]) → Den K xo H v p → Den K xo H (.ref a) (.dict [(.str c, .tuple [p])])
inductive DenAll (K : PySem.W.Frag) (xo : XO) (H : Hp) : List V → List D → Prop
  | nil : DenAll K xo H [] []
  | cons {v : V} {vs : List V} {d : D} {ds : List D} : Den K xo H v d → DenAll K xo H vs ds → DenAll K xo H (v :: vs) (d :: ds)
end

section
variable {K : PySem.W.Frag} {xo : XO} {H H' F F' F1 : Hp}
theorem rd_mono {a : Addr} {u : HO} (s : Same F F') (h : Rd F a u) : Rd F' a u := by
  rcases h with h | ⟨o, h⟩
  · exact .inl (s _ _ h)
  · exact .inr ⟨o, s _ _ h⟩
theorem sqt_mono {a : Addr} {xs : List V} (s : Same F F') (h : SqT K F a xs) : SqT K F' a xs := by
  rcases h with h | h
  · exact .inl (rd_mono s h)
  · exact .inr h
mutual
theorem Den.mono (s : Same F F') : ∀ {v : V} {d : D}, Den K xo F v d → Den K xo F' v d
  | _, _, .non => .non
  | _, _, .bl b => .bl b
  | _, _, .int i => .int i
  | _, _, .str x => .str x
  | _, _, .scr h r => .scr (s.seq h) (DenAll.mono s r)
  | _, _, .lst h r => .lst (s _ _ h) (DenAll.mono s r)
  | _, _, .tup h r => .tup (sqt_mono s h) (DenAll.mono s r)
  | _, _, .exc0 h x => .exc0 (s _ _ h) x
  | _, _, .exc1 h x h2 r => .exc1 (s _ _ h) x (s _ _ h2) (Den.mono s r)
theorem DenAll.mono (s : Same F F') : ∀ {vs : List V} {ds : List D}, DenAll K xo F vs ds → DenAll K xo F' vs ds
  | _, _, .nil => .nil
  | _, _, .cons h r => .cons (Den.mono s h) (DenAll.mono s r)
end
theorem DenAll.length : ∀ {vs : List V} {ds : List D}, DenAll K xo H vs ds → vs.length = ds.length
  | _, _, .nil => rfl
  | _, _, .cons _ r => congrArg (· + 1) r.length
theorem DenAll.get : ∀ {vs : List V} {ds : List D} {i : Nat} {d : D}, DenAll K xo H vs ds → ds[i]? = some d → ∃ v, vs[i]? = some v ∧ Den K xo H v d
  | _, _, _, _, .nil, e => by simp at e
  | _, _, 0, _, .cons h _, e => by
    have e' := Option.some.inj (show some _ = some _ from e)
    subst e'
    exact ⟨_, rfl, h⟩
  | _, _, i + 1, d, .cons _ t, e => by
    obtain ⟨v, h1, h2⟩ := DenAll.get (i := i) (d := d) t (by simpa using e)
    exact ⟨v, by simpa using h1, h2⟩
theorem DenAll.append : ∀ {vs us : List V} {ds es : List D}, DenAll K xo H vs ds → DenAll K xo H us es → DenAll K xo H (vs ++ us) (ds ++ es)
  | _, _, _, _, .nil, s => s
  | _, _, _, _, .cons h t, s => .cons h (DenAll.append t s)
theorem DenAll.take : ∀ {vs : List V} {ds : List D} (n : Nat), DenAll K xo H vs ds → DenAll K xo H (vs.take n) (ds.take n)
  | _, _, 0, _ => .nil
  | _, _, _ + 1, .nil => .nil
  | _, _, n + 1, .cons h t => .cons h (DenAll.take n t)
theorem DenAll.drop : ∀ {vs : List V} {ds : List D} (n : Nat), DenAll K xo H vs ds → DenAll K xo H (vs.drop n) (ds.drop n)
  | _, _, 0, r => r
  | _, _, _ + 1, .nil => .nil
  | _, _, n + 1, .cons _ t => DenAll.drop n t
theorem DenAll.rev : ∀ {vs : List V} {ds : List D}, DenAll K xo H vs ds → DenAll K xo H vs.reverse ds.reverse
  | _, _, .nil => .nil
  | _, _, .cons h t => by
    rw [List.reverse_cons, List.reverse_cons]
    exact DenAll.append (DenAll.rev t) (.cons h .nil)
theorem DenAll.set : ∀ {vs : List V} {ds : List D} {v : V} {d : D} (n : Nat), Den K xo H v d → DenAll K xo H vs ds → DenAll K xo H (vs.set n v) (ds.set n d)
  | _, _, _, _, _, _, .nil => .nil
  | _, _, _, _, 0, h, .cons _ t => .cons h t
  | _, _, _, _, n + 1, h, .cons q t => .cons q (DenAll.set n h t)
theorem DenAll.rep {vs : List V} {ds : List D} (h : DenAll K xo H vs ds) : ∀ n : Nat, DenAll K xo H (List.replicate n vs).flatten (DL.rep n ds)
  | 0 => .nil
  | n + 1 => by
    show DenAll K xo H (List.replicate (n + 1) vs).flatten (List.replicate (n + 1) ds).flatten
    rw [List.replicate_succ, List.replicate_succ, List.flatten_cons, List.flatten_cons]
    exact h.append (DenAll.rep h n)
theorem DenAll.cutD {vs : List V} {ds : List D} (h : DenAll K xo H vs ds) (lo hi : Option Int) : DenAll K xo H (cutV vs lo hi) (cut ds lo hi) := by
  unfold cutV cut
  rw [h.length]
  exact (h.drop _).take _
theorem DenAll.ints : ∀ {vs : List V} {ds : List D} {ns : List Int}, DenAll K xo H vs ds → ints? ds = some ns → vs = ns.map V.int
  | _, _, _, .nil, e => by
    have e' := Option.some.inj (show some [] = some _ from e)
    subst e'
    rfl
  | _, d :: ds, ns, .cons h t, e => by
    cases d with
    | int i =>
      cases h
      have e' : (ints? ds).map (i :: ·) = some ns := e
      cases q : ints? ds with
      | none => rw [q] at e'; cases e'
      | some ms =>
        rw [q] at e'
        have e2 := Option.some.inj e'
        subst e2
        rw [DenAll.ints t q]
        rfl
    | none => cases e
    | bool _ => cases e
    | str _ => cases e
    | list _ => cases e
    | tuple _ => cases e
    | dict _ => cases e
mutual
theorem Den.dp : ∀ {v : V} {d : D}, Den K xo H v d → d.canLay0 = true → Dp K H v d
  | _, _, .non, _ => .non
  | _, _, .bl b, _ => .bl b
  | _, _, .int i, _ => .int i
  | _, _, .str x, _ => .str x
  | _, _, .scr _ _, l => by simp only [PyData.canLay0] at l; cases l
  | _, _, .lst h r, l => .lst (.inl (.inl h)) (DenAll.dp r (by simpa only [PyData.canLay0] using l))
  | _, _, .tup h r, l => .tup h (DenAll.dp r (by simpa only [PyData.canLay0] using l))
  | _, _, .exc0 _ _, l => by simp only [PyData.canLay0] at l; cases l
  | _, _, .exc1 _ _ _ _, l => by simp only [PyData.canLay0] at l; cases l
theorem DenAll.dp : ∀ {vs : List V} {ds : List D}, DenAll K xo H vs ds → PyData.canLayAll0 ds = true → DpAll K H vs ds
  | _, _, .nil, _ => .nil
  | _, _, .cons h r, l => by
    simp only [PyData.canLayAll0, Bool.and_eq_true] at l
    exact .cons (Den.dp h l.1) (DenAll.dp r l.2)
end
theorem den_lay {v : V} {d : D} (h : Den K xo H v d) (l : lay d = true) : Dp K H v d := h.dp (SeqAt.canLay_of_shaped l)
theorem den_tru {v : V} {d : D} {b : Bool} (h : Den K xo H v d) (e : tru d = some b) : TruV K v H b := by
  cases h with
  | non => exact (Option.some.inj e).symm
  | bl b => exact (Option.some.inj e).symm
  | int i => exact (Option.some.inj e).symm
  | str x =>
    have e' : (if x.length ≤ lim then some ((x.length : Int) != 0) else none) = some b := e
    by_cases hx : x.length ≤ lim
    · rw [if_pos hx] at e'
      exact ⟨Nat.le_trans hx (by decide), (Option.some.inj e').symm⟩
    · rw [if_neg hx] at e'
      cases e'
  | lst h r =>
    refine .inl ⟨_, .inl (.inl h), ?_⟩
    have e' := Option.some.inj e
    rw [← e']
    cases r <;> rfl
  | tup h r =>
    refine .inr (.inl ⟨_, h, ?_⟩)
    have e' := Option.some.inj e
    rw [← e']
    cases r <;> rfl
  | scr _ _ => cases e
  | exc0 _ _ => cases e
  | exc1 _ _ _ _ => cases e
end

/-- a frame's ground: the heap and the frozen part at its entry, the list that was handed in as its own -/
structure FB where
  H0 : Hp
  F0 : Hp
  /-- what may be written -/
  M : Addr → Prop
  pa : Option Addr
/-- a list that is one's own, to freeze or to hand on -/
def FB.mine (B : FB) (p : Addr) : Prop := B.H0 p = none ∨ (B.M p ∧ B.pa ≠ some p)

structure Rel (K : PySem.W.Frag) (xo : XO) (B : FB) (F : Hp) (σ : L2.St) (H : Hp) (e : Env) : Prop where
  sub : Same F H
  sub0 : Same B.F0 F
  new : ∀ a, F a ≠ none → B.F0 a ≠ none ∨ B.mine a
  hpa : ∀ a, B.pa = some a → B.H0 a ≠ none
  keep : ∀ a o, B.H0 a = some o → ¬ B.M a → (∀ ps, o ≠ .tbl ps) → H a = some o
  tbk : ∀ a ps, B.H0 a = some (.tbl ps) → ∃ ps', H a = some (.tbl ps')
  tabs : LamX.Tabs xo.T H
  ob : ∀ a, B.M a → H a ≠ none
  len : σ.length = e.length
  val : ∀ (i : Nat) d, e[i]? = some (.val d) → ∃ v, σ[i]? = some (some v) ∧ Den K xo F v d
  own : ∀ (i : Nat) p ds, e[i]? = some (.own p ds) → ∃ a vs, σ[i]? = some (some (.ref a)) ∧ H a = some (.lst vs) ∧ F a = none ∧ DenAll K xo F vs ds ∧ (B.M a ∨ B.H0 a = none) ∧ (p = true ↔ B.pa = some a)
  sep : ∀ (i j : Nat) (a : Addr) p q ds es, e[i]? = some (.own p ds) → e[j]? = some (.own q es) → σ[i]? = some (some (.ref a)) → σ[j]? = some (some (.ref a)) → i = j

section
variable {K : PySem.W.Frag} {xo : XO} {B : FB} {F H : Hp} {σ : L2.St} {e : Env}
theorem same_upd {H : Hp} {p : Addr} {o : HO} (h : H p = none) : Same H (upd H p o) := fun b x q => by
  rw [upd_ne (ne_of_none q h)]
  exact q
theorem Rel.h0 (r : Rel K xo B F σ H e) {p : Addr} (h : H p = none) : B.H0 p = none := by
  cases q : B.H0 p with
  | none => rfl
  | some o =>
    by_cases z : B.M p
    · exact absurd h (r.ob p z)
    · by_cases t : ∃ ps, o = .tbl ps
      · obtain ⟨ps, rfl⟩ := t
        obtain ⟨ps', e⟩ := r.tbk p ps q
        rw [e] at h
        cases h
      · rw [r.keep p o q z (fun ps e => t ⟨ps, e⟩)] at h
        cases h
theorem Rel.f0 (r : Rel K xo B F σ H e) {p : Addr} (h : H p = none) : F p = none := by
  cases q : F p with
  | none => rfl
  | some o => rw [r.sub p o q] at h; cases h
/-- a new list, not frozen -/
theorem Rel.fresh (r : Rel K xo B F σ H e) {p : Addr} {o : HO} (h : H p = none) : Rel K xo B F σ (upd H p o) e where
  sub := r.sub.trans (same_upd h)
  sub0 := r.sub0
  new := r.new
  hpa := r.hpa
  keep := fun a u q z t => same_upd h a u (r.keep a u q z t)
  tbk := fun a ps q => (r.tbk a ps q).imp fun _ e => same_upd h a _ e
  tabs := r.tabs.ext (same_upd h)
  ob := fun a z => by
    by_cases q : a = p
    · subst q; rw [upd_same]; exact fun x => nomatch x
    · rw [upd_ne q]; exact r.ob a z
  len := r.len
  val := r.val
  own := fun i pp ds q => by
    obtain ⟨a, vs, h1, h2, h3, h4, h5⟩ := r.own i pp ds q
    exact ⟨a, vs, h1, same_upd h _ _ h2, h3, h4, h5⟩
  sep := r.sep
/-- an object is frozen as it stands -/
theorem Rel.freeze (r : Rel K xo B F σ H e) {p : Addr} {u : HO} (hF : F p = none) (hH : H p = some u) (h0 : B.mine p) (hown : ∀ (i : Nat) pp ds, e[i]? = some (.own pp ds) → σ[i]? ≠ some (some (.ref p))) :
    Rel K xo B (upd F p u) σ H e where
  sub := fun a o q => by
    by_cases z : a = p
    · subst z; rw [upd_same] at q; cases q; exact hH
    · rw [upd_ne z] at q; exact r.sub a o q
  sub0 := r.sub0.trans (same_upd hF)
  new := fun a q => by
    by_cases z : a = p
    · subst z; exact .inr h0
    · rw [upd_ne z] at q; exact r.new a q
  hpa := r.hpa
  keep := r.keep
  tbk := r.tbk
  tabs := r.tabs
  ob := r.ob
  len := r.len
  val := fun i d q => by
    obtain ⟨v, h1, h2⟩ := r.val i d q
    exact ⟨v, h1, h2.mono (same_upd hF)⟩
  own := fun i pp ds q => by
    obtain ⟨a, vs, h1, h2, h3, h4, h5⟩ := r.own i pp ds q
    have ne : a ≠ p := fun z => hown i pp ds q (by rw [← z]; exact h1)
    exact ⟨a, vs, h1, h2, by rw [upd_ne ne]; exact h3, h4.mono (same_upd hF), h5⟩
  sep := r.sep
theorem Rel.ownNe (r : Rel K xo B F σ H e) {p : Addr} (h : H p = none) (i : Nat) (pp : Bool) (ds : List D) (q : e[i]? = some (.own pp ds)) : σ[i]? ≠ some (some (.ref p)) := fun z => by
  obtain ⟨a, vs, h1, h2, _⟩ := r.own i pp ds q
  rw [h1] at z
  injection z with z
  injection z with z
  injection z with z
  rw [z, h] at h2
  cases h2
/-- a new object, frozen at once -/
theorem Rel.laid (r : Rel K xo B F σ H e) {p : Addr} {u : HO} (h : H p = none) : Rel K xo B (upd F p u) σ (upd H p u) e :=
  (r.fresh h).freeze (r.f0 h) upd_same (.inl (r.h0 h)) (fun i pp ds q => r.ownNe h i pp ds q)
/-- more is frozen by others -/
theorem Rel.den (r : Rel K xo B F σ H e) {v : V} {d : D} (h : Den K xo F v d) : Den K xo H v d := h.mono r.sub
end

/-- an exception in the air: its class by name, what it keeps -/
def ExW (K : PySem.W.Frag) (xo : XO) (mg : Str → Option Value) (c : Str) (ps : List D) (cls : Value) (dx : Option Addr) (H F : Hp) : Prop :=
  ∃ C : Addr, mg c = some (.ref C) ∧ cls = .ref C ∧ match ps with
    | [] => dx = none
    | [p] => ∃ d f v, dx = some d ∧ H d = some (.xd [(f, v)]) ∧ Den K xo F v p
    | _ => False

section
variable (K : PySem.W.Frag) (xo : XO) (mg : Str → Option Value) (W : WX)
/-- what is wanted behind a term -/
def PostE (B : FB) (σ : L2.St) (F : Hp) (r : R DV) (Q : VK) : Prop := match r with
  | .ok (.d d) e => ∀ v H' F', Rel K xo B F' σ H' e → Same F F' → Den K xo F' v d → Q v H'
  | .ok (.fr ds) e => ∀ p vs H' F', Rel K xo B F' σ H' e → Same F F' → H' p = some (.lst vs) → F' p = none → DenAll K xo F' vs ds → B.mine p →
      (∀ (i : Nat) pp es, e[i]? = some (.own pp es) → σ[i]? ≠ some (some (.ref p))) → Q (.ref p) H'
  | .exn c ps e => ∀ cls dx H' F', Rel K xo B F' σ H' e → Same F F' → ExW K xo mg c ps cls dx H' F' → W cls dx σ H'
  | .bad => False
/-- .. behind something else (a list of data, a truth): R is asked of it and the state -/
def PostX {α : Type} (B : FB) (σ : L2.St) (F : Hp) (r : R α) (Q : α → Env → Hp → Hp → Prop) : Prop := match r with
  | .ok a e => ∀ H' F', Rel K xo B F' σ H' e → Same F F' → Q a e F' H'
  | .exn c ps e => ∀ cls dx H' F', Rel K xo B F' σ H' e → Same F F' → ExW K xo mg c ps cls dx H' F' → W cls dx σ H'
  | .bad => False
end

section
variable {K : PySem.W.Frag} {xo : XO} {mg : Str → Option Value} {W : WX} {B : FB} {σ : L2.St} {F F1 H : Hp} {e : Env} {Q Q' : VK}
theorem PostE.sub {r : R DV} (h : PostE K xo mg W B σ F r Q) (s : Same F F1) : PostE K xo mg W B σ F1 r Q := by
  cases r with
  | bad => exact h
  | exn c ps e => exact fun cls dx H' F' r1 s1 x => h cls dx H' F' r1 (s.trans s1) x
  | ok v e =>
    cases v with
    | d d => exact fun v H' F' r1 s1 x => h v H' F' r1 (s.trans s1) x
    | fr ds => exact fun p vs H' F' r1 s1 => h p vs H' F' r1 (s.trans s1)
theorem PostE.imp {r : R DV} (h : PostE K xo mg W B σ F r Q) (q : ∀ v H, Q v H → Q' v H) : PostE K xo mg W B σ F r Q' := by
  cases r with
  | bad => exact h
  | exn c ps e => exact h
  | ok v e =>
    cases v with
    | d d => exact fun v H' F' r1 s1 x => q _ _ (h v H' F' r1 s1 x)
    | fr ds => exact fun p vs H' F' r1 s1 a b c d f => q _ _ (h p vs H' F' r1 s1 a b c d f)
/-- data that stands already -/
theorem post_val {d : D} {v : V} (r : Rel K xo B F σ H e) (h : PostE K xo mg W B σ F (.ok (.d d) e) Q) (x : Den K xo F v d) : Q v H := h v H F r (Same.refl _) x
theorem post_tup {ds : List D} {vs : List V} (r : Rel K xo B F σ H e) (h : PostE K xo mg W B σ F (.ok (.d (.tuple ds)) e) Q) (x : DenAll K xo F vs ds) :
    ∀ p, H p = none → Q (.ref p) (upd H p (.tup vs)) := fun p hp => by
  have s := same_upd (o := HO.tup vs) (r.f0 hp)
  exact h _ _ _ (r.laid hp) s (.tup (.inl (.inl upd_same)) (x.mono s))
theorem post_lst {ds : List D} {vs : List V} (r : Rel K xo B F σ H e) (h : PostE K xo mg W B σ F (.ok (.fr ds) e) Q) (x : DenAll K xo F vs ds) :
    ∀ p, H p = none → Q (.ref p) (upd H p (.lst vs)) := fun p hp =>
  h p vs _ F (r.fresh hp) (Same.refl _) upd_same (r.f0 hp) x (.inl (r.h0 hp)) (fun i pp ds q => r.ownNe hp i pp ds q)
end

section
variable (K : PySem.W.Frag) (xo : XO) (mg : Str → Option Value) (G : List D) (Γ : List Fn) (W : WX)
/-- a term's reading -/
def tE (a : Ex) : TE := fun σ H Q => ∃ B F e, Rel K xo B F σ H e ∧ PostE K xo mg W B σ F (evE G Γ a e) Q
def tEs (as : Exs) : TA := fun σ H Q => ∃ B F e, Rel K xo B F σ H e ∧ PostX K xo mg W B σ F (evEs G Γ as e) fun ds e1 F1 H1 => ∀ vs, DenAll K xo F1 vs ds → Q vs H1
end
section
variable {K : PySem.W.Frag} {xo : XO} {mg : Str → Option Value} {G : List D} {Γ : List Fn} {W : WX} {B : FB} {σ : L2.St} {F H : Hp} {e : Env}
/-- one term, and what follows it -/
theorem tE_bind {a : Ex} {f : DV → Env → R DV} {Q : VK} {T : V → Hp → Prop} (r : Rel K xo B F σ H e) (h : PostE K xo mg W B σ F ((evE G Γ a e).bind f) Q) (hf : ∀ x y e, x.fz = y.fz → f x e = f y e)
    (k : ∀ (x : D) e1 v H1 F1, Rel K xo B F1 σ H1 e1 → Same F F1 → Den K xo F1 v x → PostE K xo mg W B σ F1 (f (.d x) e1) Q → T v H1) : tE K xo mg G Γ W a σ H T := by
  refine ⟨B, F, e, r, ?_⟩
  cases q : evE G Γ a e with
  | bad => rw [q] at h; exact h.elim
  | exn c ps e1 => rw [q] at h; exact h
  | ok x e1 =>
    rw [q] at h
    cases x with
    | d x => exact fun v H' F' r1 s1 x1 => k x e1 v H' F' r1 s1 x1 (PostE.sub h s1)
    | fr ds =>
      refine fun p vs H' F' r1 s1 hp hF x1 h0 ho => ?_
      have s2 := s1.trans (same_upd (o := HO.lst vs) hF)
      have h' : PostE K xo mg W B σ F (f (.d (.list ds)) e1) Q := by
        rw [← hf (.fr ds) (.d (.list ds)) e1 rfl]
        exact h
      exact k (.list ds) e1 (.ref p) H' (upd F' p (.lst vs)) (r1.freeze hF hp h0 ho) s2 (.lst upd_same (x1.mono (same_upd hF))) (PostE.sub h' s2)
end
/-- a reading may be asked for less -/
theorem PE.imp {X : Cx} {e : Expr} {t t' : TE} (h : PE X e t) (i : ∀ σ H Q, t' σ H Q → t σ H Q) : PE X e t' := ⟨fun pins s σ H Q I q => h.run pins s σ H Q I (i σ H Q q)⟩
theorem PT.imp {X : Cx} {e : Expr} {t t' : TT} (h : PT X e t) (i : ∀ σ H Q, t' σ H Q → t σ H Q) : PT X e t' := ⟨fun pins s σ H Q I q => h.run pins s σ H Q I (i σ H Q q)⟩
theorem PA.imp {X : Cx} {es : List Expr} {t t' : TA} (h : PA X es t) (i : ∀ σ H Q, t' σ H Q → t σ H Q) : PA X es t' := ⟨fun pos pins s σ H Q I q => h.run pos pins s σ H Q I (i σ H Q q)⟩
theorem PS.imp {X : Cx} {e : Stmt} {t t' : TS} (h : PS X e t) (i : ∀ D σ H, t' D σ H → t D σ H) : PS X e t' := ⟨fun pins s σ H D I q => h.run pins s σ H D I (i D σ H q)⟩
theorem PSs.imp {X : Cx} {e : List Stmt} {t t' : TS} (h : PSs X e t) (i : ∀ D σ H, t' D σ H → t D σ H) : PSs X e t' := ⟨fun pins s σ H D I q => h.run pins s σ H D I (i D σ H q)⟩
end DL


set_option Elab.async false
set_option linter.all false
set_option maxRecDepth 100000
set_option maxHeartbeats 1000000
/-! DL2: the operators, tests and built-ins of DL0 are what the machine does. -/
namespace DL
open PySem PySem.Spec PyProof.Rows L2

theorem lim_line {n : Nat} (h : n ≤ lim) : n ≤ sizeLine := Nat.le_trans h (by decide)
theorem lim_lt {n : Nat} (h : n < lim) : n < sizeLine := Nat.lt_of_lt_of_le h (by decide)
def opB : Bop → Operator
  | .add => .Add | .sub => .Sub | .mul => .Mult | .fdiv => .FloorDiv | .mod => .Mod | .pow => .Pow
def opC : Cop → CmpOp
  | .eq => .Eq | .ne => .NotEq | .lt => .Lt | .le => .LtE | .gt => .Gt | .ge => .GtE | .isn => .Is | .notn => .IsNot | .mem => .In | .nmem => .NotIn

section
variable (K : PySem.W.Frag) (xo : XO) (mg : Str → Option Value) (W : WX)
def rBin (o : Bop) : R2 := fun x y H Q => ∃ (B : FB) (F : Hp) (σ : L2.St) (e : Env) (dx dy : D) (dv : DV), Rel K xo B F σ H e ∧ Den K xo F x dx ∧ Den K xo F y dy ∧ bin o dx dy = some dv ∧ PostE K xo mg W B σ F (.ok dv e) Q
def rCmp (o : Cop) : R2 := fun x y H Q => ∃ (F : Hp) (dx dy : D) (b : Bool), Same F H ∧ Den K xo F x dx ∧ Den K xo F y dy ∧ cmp o dx dy = some b ∧ Q (.bl b) H
def rBi (f : Bi) : List V → Hp → VK → Prop := fun vs H Q => ∃ (B : FB) (F : Hp) (σ : L2.St) (e : Env) (ds : List D) (dv : DV), Rel K xo B F σ H e ∧ DenAll K xo F vs ds ∧ bi f ds = some dv ∧ PostE K xo mg W B σ F (.ok dv e) Q
end

theorem tupMulOne (l : Addr) (items : Array Value) (n : Nat) (dd : Option Addr) (sl : Array (Option Value)) (u : Tok) :
    Meets (Builtin.«tuple.__mul__» ⟨[.ref l, .int 1 u], []⟩) (fun _ R s => s.heap.get? l = some { cls := .type "tuple", dict := dd, data := .seq items n, slots := sl } ∧ R (.ok (.ret (Value.ref l))) s) :=
  .of_wp fun prog w A R s h => by
    obtain ⟨hp, g, d, tk, os⟩ := s
    obtain ⟨hl, h⟩ := h
    have f1 := AutoSeq1.idx_int
    wp_walk using wpAny_loadPart' hl
    exact ⟨_, rfl, h⟩

theorem tupMulNil (l : Addr) (items : Array Value) (n : Nat) (dd : Option Addr) (sl : Array (Option Value)) (x : Int) (u : Tok) (c0 : (decide (x < -(2 ^ 63)) || decide (x ≥ 2 ^ 63)) = false) (c1 : (items.isEmpty || x == 1) = false) (c2 : (decide (x ≤ 0) || items.isEmpty) = true) :
    Meets (Builtin.«tuple.__mul__» ⟨[.ref l, .int x u], []⟩) (fun _ R s => s.heap.get? l = some { cls := .type "tuple", dict := dd, data := .seq items n, slots := sl } ∧
      R (.ok (.ret (Value.ref s.heap.objs.size))) { s with heap := s.heap.push { cls := Value.type "tuple", data := Data.seq #[] }, toks := s.toks }) :=
  .of_wp fun prog w A R s h => by
    obtain ⟨hp, g, d, tk, os⟩ := s
    obtain ⟨hl, h⟩ := h
    have f1 := AutoSeq1.idx_int
    wp_walk using wpAny_loadPart' hl
    repeat (first
      | (refine wpAny_ite_false (decide_eq_false (by rw [c0]; exact Bool.false_ne_true)) ?_; wp_walk using wpAny_loadPart' hl)
      | (refine wpAny_ite_false (decide_eq_false (by rw [c1]; exact Bool.false_ne_true)) ?_; wp_walk using wpAny_loadPart' hl)
      | (refine wpAny_ite_true (decide_eq_true (by rw [c2])) ?_; wp_walk using wpAny_loadPart' hl))
    exact ⟨_, rfl, h⟩
section
variable {X : Cx} {xo : XO} {mg : Str → Option Value} {W : WX}
/-- / rounded down -/
def CMulA (i j : Int) : Prop := i.natAbs < 2 ^ 64 ∨ j.natAbs < 2 ^ 64 ∨ i.natAbs.log2 + j.natAbs.log2 < 1000000
theorem bits64 {x : Int} (h : x.natAbs < 2 ^ 64) : Builtin.Int.intBits x ≤ 64 := by
  by_cases z : x.natAbs = 0
  · have e : x = 0 := by omega
    subst e
    decide
  · have h1 : x.natAbs.log2 < 64 := (Nat.log2_lt z).mpr h
    unfold Builtin.Int.intBits
    split <;> omega
theorem op_mulA : OpR X (binaryOp .Mult) (rI CMulA fun i j => .int (i * j)) := opI fun _ _ _ _ _ _ _ hc q => by
  rcases hc with hc | hc | hc
  · exact mul_int q (.of_left (bits64 hc))
  · exact mul_int q (.of_right (bits64 hc))
  · exact mul_int q (CMulW.ok hc)
theorem op_fdivA : OpR X (binaryOp .FloorDiv) (rI (fun _ j => j ≠ 0 ∧ j.natAbs.log2 < 9000) fun i j => .int (i.fdiv j)) :=
  opI fun _ _ _ _ _ _ _ hc q => floordiv_int hc.1 q (.inl (PyProof.noPylong_of_log2 hc.2))
/-- a tuple once is itself -/
theorem op_tup1 : OpR X (binaryOp .Mult) (fun x y H Q => ∃ l xs, x = .ref l ∧ y = .int 1 ∧ SqT X.K H l xs ∧ Q (.ref l) H) := by
  intro pins s σ H x y v u Q I rx ry h
  obtain ⟨l, xs, rfl, rfl, hT, q⟩ := h
  cases rx
  obtain ⟨t, rfl⟩ := ry
  obtain ⟨its, r, ⟨⟨cls, dd, data, sl⟩, ho, hc, n, hd⟩, hs⟩ := I.tuple hT
  dsimp only at hc hd
  subst hc hd
  exact wpAny_binaryOp_repeat_ref (T := "tuple") (U := "int") (by decide) ⟨_, ho, rfl⟩ (fun s' => typeIs_int s' 1 t) noFill_tuple_mul F.fills_int_mul F.slot_int_rmul repeat_tuple F.slot_int_index.lookup
    (call_meets F.slot_int_rmul (typeIs_int s 1 t) F.entry_int_rmul (F.args_int_rmul_2 _ _) (int_rmul_tuple 1 t l its.toArray n dd sl)
      ⟨ho, rfl, ⟨_, ho, rfl⟩, call_meets F.slot_tuple_mul ⟨_, ho, rfl⟩ F.entry_tuple_mul (F.args_tuple_mul_2 _ _) (tupMulOne l its.toArray n dd sl t) ⟨ho, ⟨.ref l, H, I, rfl, q⟩⟩⟩)
/-- a tuple no time at all is the empty one, made anew -/
theorem op_tup0 : OpR X (binaryOp .Mult) (fun x y H Q => ∃ l k xs, x = .ref l ∧ y = .int k ∧ SqT X.K H l xs ∧ xs ≠ [] ∧ -1000000 ≤ k ∧ k ≤ 0 ∧ ∀ p, H p = none → Q (.ref p) (upd H p (.tup []))) := by
  intro pins s σ H x y v u Q I rx ry h
  obtain ⟨l, k, xs, rfl, rfl, hT, hne, k1, k2, q⟩ := h
  cases rx
  obtain ⟨t, rfl⟩ := ry
  obtain ⟨its, r, ⟨⟨cls, dd, data, sl⟩, ho, hc, n, hd⟩, hs⟩ := I.tuple hT
  dsimp only at hc hd
  subst hc hd
  have hle : its.length = xs.length := r.length.symm
  have hi : its.toArray.isEmpty = false := by
    cases its with
    | nil => exact absurd (List.eq_nil_of_length_eq_zero hle.symm) hne
    | cons a b => rfl
  have c0 : (decide (k < -(2 ^ 63)) || decide (k ≥ 2 ^ 63)) = false := by
    rw [decide_eq_false (by omega), decide_eq_false (by omega)] <;> rfl
  have c1 : (its.toArray.isEmpty || k == 1) = false := by
    rw [hi, Bool.false_or]
    exact beq_eq_false_iff_ne.mpr (by omega)
  have c2 : (decide (k ≤ 0) || its.toArray.isEmpty) = true := by
    rw [decide_eq_true k2]; rfl
  refine wpAny_binaryOp_repeat_ref (T := "tuple") (U := "int") (by decide) ⟨_, ho, rfl⟩ (fun s' => typeIs_int s' k t) noFill_tuple_mul F.fills_int_mul F.slot_int_rmul repeat_tuple F.slot_int_index.lookup
    (call_meets F.slot_int_rmul (typeIs_int s k t) F.entry_int_rmul (F.args_int_rmul_2 _ _) (int_rmul_tuple k t l its.toArray n dd sl)
      ⟨ho, rfl, ⟨_, ho, rfl⟩, call_meets F.slot_tuple_mul ⟨_, ho, rfl⟩ F.entry_tuple_mul (F.args_tuple_mul_2 _ _) (tupMulNil l its.toArray n dd sl k t c0 c1 c2) ⟨ho, ?_⟩⟩)
  refine ⟨.ref s.heap.objs.size, _, I.laid (t' := s.toks) (o := .tup []) (fun b ob q => Heap.get?_push_of_some _ q) (Nat.le_refl _) ?_, rfl, q _ (I.hok.fresh (Nat.le_refl _))⟩
  exact ⟨Nat.zero_le _, _, .nil, IsTup.new _ _⟩
theorem denAll_nil {K : PySem.W.Frag} {H : Hp} {vs : List V} {ds : List D} (h : DenAll K xo H vs ds) : vs = [] ↔ ds = [] := by
  cases h with
  | nil => exact ⟨fun _ => rfl, fun _ => rfl⟩
  | cons _ _ => exact ⟨(fun z => nomatch z), (fun z => nomatch z)⟩
theorem bin_ok (o : Bop) : OpR X (binaryOp (opB o)) (rBin X.K xo mg W o) := by
  intro pins s σ H x y v u Q I rx ry h
  obtain ⟨B, F, σ', e, dx, dy, dv, r, hx, hy, hb, post⟩ := h
  unfold bin at hb
  split at hb
  · cases hx; cases hy
    have z := Option.some.inj hb
    subst z
    exact op_add pins s σ H _ _ v u Q I rx ry ⟨_, _, rfl, rfl, post_val r post (.int _)⟩
  · rename_i xs ys
    split at hb
    · rename_i hl
      have z := Option.some.inj hb
      subst z
      cases hx with
      | tup h1 a1 => cases hy with
        | tup h2 a2 =>
          refine op_catA pins s σ H _ _ v u Q I rx ry ⟨_, _, _, _, rfl, rfl, sqt_mono r.sub h1, sqt_mono r.sub h2, ?_, fun z => ?_, fun _ z => ?_, fun _ _ => ?_⟩
          · rw [a1.length, a2.length]; exact lim_line hl
          · have z' := (denAll_nil a1).mp z
            subst z'
            exact post_val r post (.tup h2 a2)
          · have z' := (denAll_nil a2).mp z
            subst z'
            rw [List.append_nil] at post
            exact post_val r post (.tup h1 a1)
          · exact post_tup r post (a1.append a2)
    · cases hb
  · rename_i xs ys
    split at hb
    · rename_i hl
      have z := Option.some.inj hb
      subst z
      cases hx with
      | lst h1 a1 => cases hy with
        | lst h2 a2 =>
          exact op_cat pins s σ H _ _ v u Q I rx ry ⟨_, _, _, _, rfl, rfl, r.sub _ _ h1, r.sub _ _ h2, by rw [a1.length, a2.length]; exact lim_line hl, post_lst r post (a1.append a2)⟩
    · cases hb
  · split at hb
    · rename_i hl
      have z := Option.some.inj hb
      subst z
      cases hx; cases hy
      exact op_add_str pins s σ H _ _ v u Q I rx ry ⟨_, _, rfl, rfl, lim_line hl, post_val r post (.str _)⟩
    · cases hb
  · cases hx; cases hy
    have z := Option.some.inj hb
    subst z
    exact op_sub pins s σ H _ _ v u Q I rx ry ⟨_, _, rfl, rfl, post_val r post (.int _)⟩
  · split at hb
    · rename_i hl
      have z := Option.some.inj hb
      subst z
      cases hx; cases hy
      exact op_mulA pins s σ H _ _ v u Q I rx ry ⟨_, _, rfl, rfl, hl, post_val r post (.int _)⟩
    · cases hb
  · rename_i xs k
    split at hb
    · rename_i hk
      subst hk
      have z := Option.some.inj hb
      subst z
      cases hy
      cases hx with
      | tup h1 a1 => exact op_tup1 pins s σ H _ _ v u Q I rx ry ⟨_, _, rfl, rfl, sqt_mono r.sub h1, post_val r post (.tup h1 a1)⟩
    · split at hb
      · rename_i hk
        obtain ⟨k1, k2, k3, k4⟩ := hk
        have z := Option.some.inj hb
        subst z
        cases hy
        cases hx with
        | tup h1 a1 => exact op_repT pins s σ H _ _ v u Q I rx ry ⟨_, _, _, rfl, rfl, sqt_mono r.sub h1, fun z => k4 ((denAll_nil a1).mp z), k1, k2, by rw [a1.length]; exact k3, post_tup r post (a1.rep k.toNat)⟩
      · split at hb
        · rename_i hk
          obtain ⟨k1, k2, k4⟩ := hk
          have z := Option.some.inj hb
          subst z
          cases hy
          cases hx with
          | tup h1 a1 => exact op_tup0 pins s σ H _ _ v u Q I rx ry ⟨_, _, _, rfl, rfl, sqt_mono r.sub h1, fun z => k4 ((denAll_nil a1).mp z), k1, k2, post_tup r post .nil⟩
        · cases hb
  · rename_i xs k
    split at hb
    · rename_i hk
      obtain ⟨k1, k2, k3⟩ := hk
      have z := Option.some.inj hb
      subst z
      cases hy
      cases hx with
      | lst h1 a1 => exact op_rep pins s σ H _ _ v u Q I rx ry ⟨_, _, _, rfl, rfl, r.sub _ _ h1, by omega, by omega, by rw [a1.length]; exact lim_line k3, post_lst r post (a1.rep k.toNat)⟩
    · cases hb
  · split at hb
    · rename_i hl
      have z := Option.some.inj hb
      subst z
      cases hx; cases hy
      exact op_fdivA pins s σ H _ _ v u Q I rx ry ⟨_, _, rfl, rfl, hl, post_val r post (.int _)⟩
    · cases hb
  · split at hb
    · rename_i hl
      have z := Option.some.inj hb
      subst z
      cases hx; cases hy
      exact op_modN pins s σ H _ _ v u Q I rx ry ⟨_, _, rfl, rfl, hl, post_val r post (.int _)⟩
    · cases hb
  · split at hb
    · rename_i hl
      have z := Option.some.inj hb
      subst z
      cases hx; cases hy
      exact op_pow pins s σ H _ _ v u Q I rx ry ⟨_, _, rfl, rfl, hl, post_val r post (.int _)⟩
    · cases hb
  · cases hb

theorem flat_den {K : PySem.W.Frag} {H : Hp} {v : V} {d : D} (h : Den K xo H v d) (f : flat d = true) : flatV v = true := by
  cases h <;> first | rfl | cases f
theorem flat_eqv {K : PySem.W.Frag} {H : Hp} {v u : V} {d e : D} (h : Den K xo H v d) (h2 : Den K xo H u e) (f : flat d = true) (g : flat e = true) : eqV v u = PyData.eqv d e := by
  cases h with
  | non => cases h2 <;> first | (cases g; done) | (simp only [PyData.eqv]; rfl)
  | bl b => cases h2 <;> first | (cases g; done) | (simp only [PyData.eqv]; rfl)
  | int i => cases h2 <;> first | (cases g; done) | (simp only [PyData.eqv]; rfl)
  | str x => cases h2 <;> first | (cases g; done) | (simp only [PyData.eqv]; rfl)
  | scr _ _ => cases f
  | lst _ _ => cases f
  | tup _ _ => cases f
  | exc0 _ _ => cases f
  | exc1 _ _ _ _ => cases f
theorem flat_all {K : PySem.W.Frag} {H : Hp} : ∀ {vs : List V} {ds : List D}, DenAll K xo H vs ds → ds.all flat = true → vs.all flatV = true
  | _, _, .nil, _ => rfl
  | _, _, .cons h t, f => by
    rw [List.all_cons, Bool.and_eq_true] at f ⊢
    exact ⟨flat_den h f.1, flat_all t f.2⟩
theorem flat_any {K : PySem.W.Frag} {H : Hp} {u : V} {e : D} (h2 : Den K xo H u e) (g : flat e = true) : ∀ {vs : List V} {ds : List D}, DenAll K xo H vs ds → ds.all flat = true → inV u vs = ds.any fun z => PyData.eqv z e
  | _, _, .nil, _ => rfl
  | _, _, .cons h t, f => by
    rw [List.all_cons, Bool.and_eq_true] at f
    show (eqV _ u || inV u _) = (PyData.eqv _ e || _)
    rw [flat_eqv h h2 f.1 g, flat_any h2 g t f.2]
theorem cmp_ok (hu : X.A.units + 65 < cLine) (o : Cop) : OpR X (compareOp (opC o)) (rCmp X.K xo o) := by
  intro pins s σ H x y v u Q I rx ry h
  obtain ⟨F, dx, dy, b, sb, hx, hy, hb, q⟩ := h
  replace hx := hx.mono sb
  replace hy := hy.mono sb
  unfold cmp at hb
  split at hb
  · split at hb
    · rename_i l
      rw [Bool.and_eq_true] at l
      have z := Option.some.inj hb
      subst z
      exact op_eqD (by omega) pins s σ H _ _ v u Q I rx ry ⟨_, _, den_lay hx l.1, den_lay hy l.2, l.1, l.2, q⟩
    · cases hb
  · split at hb
    · rename_i l
      rw [Bool.and_eq_true] at l
      have z := Option.some.inj hb
      subst z
      exact op_neD (by omega) pins s σ H _ _ v u Q I rx ry ⟨_, _, den_lay hx l.1, den_lay hy l.2, l.1, l.2, q⟩
    · cases hb
  · cases hx; cases hy
    have z := Option.some.inj hb
    subst z
    exact op_lt pins s σ H _ _ v u Q I rx ry ⟨_, _, rfl, rfl, q⟩
  · cases hx; cases hy
    have z := Option.some.inj hb
    subst z
    exact op_le pins s σ H _ _ v u Q I rx ry ⟨_, _, rfl, rfl, q⟩
  · cases hx; cases hy
    have z := Option.some.inj hb
    subst z
    exact op_gt pins s σ H _ _ v u Q I rx ry ⟨_, _, rfl, rfl, q⟩
  · cases hx; cases hy
    have z := Option.some.inj hb
    subst z
    exact op_ge pins s σ H _ _ v u Q I rx ry ⟨_, _, rfl, rfl, q⟩
  · cases hy
    have z := Option.some.inj hb
    refine op_isN pins s σ H _ _ v u Q I rx ry ⟨rfl, ?_⟩
    have e : decide (x = V.non) = b := by
      rw [← z]
      cases hx <;> rfl
    rw [e]
    exact q
  · cases hy
    have z := Option.some.inj hb
    refine op_notN pins s σ H _ _ v u Q I rx ry ⟨rfl, ?_⟩
    have e : (!decide (x = V.non)) = b := by
      rw [← z]
      cases hx <;> rfl
    rw [e]
    exact q
  · split at hb
    · rename_i l
      rw [Bool.and_eq_true] at l
      have z := Option.some.inj hb
      subst z
      exact op_inD hu pins s σ H _ _ v u Q I rx ry ⟨_, _, den_lay hx l.1, den_lay hy l.2, l.1, l.2, q⟩
    · cases hb
  · split at hb
    · rename_i l
      rw [Bool.and_eq_true] at l
      have z := Option.some.inj hb
      subst z
      exact op_notInD hu pins s σ H _ _ v u Q I rx ry ⟨_, _, den_lay hx l.1, den_lay hy l.2, l.1, l.2, q⟩
    · cases hb
  · split at hb
    · rename_i l
      rw [Bool.and_eq_true] at l
      have z := Option.some.inj hb
      subst z
      cases hy with
      | tup h1 a1 =>
        refine op_in_seq pins s σ H _ _ v u Q I rx ry ⟨_, _, rfl, .inr h1, flat_den hx l.1, flat_all a1 l.2, ?_⟩
        rw [flat_any hx l.1 a1 l.2]
        exact q
    · cases hb
  · split at hb
    · rename_i l
      rw [Bool.and_eq_true] at l
      have z := Option.some.inj hb
      subst z
      cases hy with
      | tup h1 a1 =>
        refine op_notIn_seq pins s σ H _ _ v u Q I rx ry ⟨_, _, rfl, .inr h1, flat_den hx l.1, flat_all a1 l.2, ?_⟩
        rw [flat_any hx l.1 a1 l.2]
        exact q
    · cases hb
  · cases hb
end
end DL


set_option Elab.async false
set_option linter.all false
set_option maxRecDepth 100000
set_option maxHeartbeats 1000000
/-! DL3: built-in functions over data. -/
namespace DL
open PySem PySem.Spec PyProof.Rows L2

/-! ### walks over a tuple -/
section
variable {prog : Program} {w : World} {A : Around} {E : Value → Shared → Prop} {s : Shared}
/-- the iterator of a tuple, made -/
theorem iterT {l : Addr} {items : Array Value} {Q : Value → Shared → Prop} (hl : s.heap.IsTuple l items)
    (h : ∀ s2 : Shared, s2 = { s with heap := s.heap.push { cls := .type "tuple_iterator", data := .fields #[.ref l, .int 0 0] } } →
      (s2.heap.IsTupleIter s.heap.objs.size l 0 ∧ s2.heap.IsTuple l items) → (∀ b ∈ [s.heap.objs.size, l], b < s2.heap.objs.size) → l ≠ s.heap.objs.size → Q (.ref s.heap.objs.size) s2) :
    wpAny (model prog w) A (pyIter (.ref l)) Q E s := by
  have hlt : l < s.heap.objs.size := by
    obtain ⟨_, q, _⟩ := id hl
    exact Heap.lt_size q
  refine wpAny_pyIter_tuple hl (h _ rfl ⟨⟨_, Heap.get?_push_size _ rfl, rfl, rfl⟩, hl.push _⟩ ?_ (Nat.ne_of_lt hlt))
  intro b hb
  rw [show ({ s with heap := s.heap.push { cls := .type "tuple_iterator", data := .fields #[.ref l, .int 0 0] } } : Shared).heap.objs.size = s.heap.objs.size + 1 from Heap.size_push ..]
  have hb' : b = s.heap.objs.size ∨ b = l := by simpa using hb
  rcases hb' with z | z
  · rw [z]; exact Nat.lt_succ_self _
  · rw [z]; exact Nat.lt_succ_of_lt hlt
theorem keepT {h h' : Heap} {o : Obj} (hk : ∀ b u, b ∉ [h.objs.size] → (h.push o).get? b = some u → h'.get? b = some u) : ∀ b u, h.get? b = some u → h'.get? b = some u := fun b u q =>
  hk b u (by
    intro hm
    have e : b = h.objs.size := by simpa using hm
    exact absurd (e ▸ Heap.lt_size q) (Nat.lt_irrefl _)) (Heap.get?_push_of_some _ q)
theorem truthInts {bs : List Bool} {its : List Value} (e : ∀ (i : Nat) v, its[i]? = some v → (v = Value.none ∧ bs.getD i false = false) ∨ (∃ b, v = .bool b ∧ bs.getD i false = b) ∨ ∃ i' t, v = .int i' t ∧ bs.getD i false = (i' != 0)) :
    TruthOf prog w A (fun i v => its.toArray[i]? = some v) (fun i => bs.getD i false) := fun i v s Q E hv hq => by
  have hv' : its[i]? = some v := by simpa using hv
  rcases e i v hv' with ⟨rfl, q⟩ | ⟨b, rfl, q⟩ | ⟨i', t, rfl, q⟩
  · have hq' : Q (bs.getD i false) s := hq
    rw [q] at hq'
    exact truthy_none hq'
  · have hq' : Q (bs.getD i false) s := hq
    rw [q] at hq'
    exact wpAny_truthy_bool hq'
  · have hq' : Q (bs.getD i false) s := hq
    rw [q] at hq'
    exact PySem.P.truthy_int hq'
end

/-! ### greatest, least, sorted -/
theorem maxI_mem : ∀ (x : Int) (r : List Int), maxI (x :: r) ∈ x :: r
  | x, [] => List.mem_cons_self
  | x, y :: r => by
    have ih := maxI_mem y r
    show (if maxI (y :: r) < x then x else maxI (y :: r)) ∈ _
    split
    · exact List.mem_cons_self
    · exact List.mem_cons_of_mem _ ih
theorem maxI_le : ∀ (x : Int) (r : List Int), ∀ z ∈ x :: r, z ≤ maxI (x :: r)
  | x, [], z, h => by
    have e : z = x := by simpa using h
    rw [e]
    exact Int.le_refl _
  | x, y :: r, z, h => by
    have ih := maxI_le y r
    show z ≤ (if maxI (y :: r) < x then x else maxI (y :: r))
    rcases List.mem_cons.mp h with e | h
    · split <;> omega
    · have := ih z h
      split <;> omega
theorem minI_mem : ∀ (x : Int) (r : List Int), minI (x :: r) ∈ x :: r
  | x, [] => List.mem_cons_self
  | x, y :: r => by
    have ih := minI_mem y r
    show (if x < minI (y :: r) then x else minI (y :: r)) ∈ _
    split
    · exact List.mem_cons_self
    · exact List.mem_cons_of_mem _ ih
theorem minI_le : ∀ (x : Int) (r : List Int), ∀ z ∈ x :: r, minI (x :: r) ≤ z
  | x, [], z, h => by
    have e : z = x := by simpa using h
    rw [e]
    exact Int.le_refl _
  | x, y :: r, z, h => by
    have ih := minI_le y r
    show (if x < minI (y :: r) then x else minI (y :: r)) ≤ z
    rcases List.mem_cons.mp h with e | h
    · split <;> omega
    · have := ih z h
      split <;> omega
theorem insI_perm (x : Int) : ∀ l : List Int, (insI x l).Perm (x :: l)
  | [] => List.Perm.refl _
  | y :: r => by
    show (if x ≤ y then x :: y :: r else y :: insI x r).Perm _
    split
    · exact List.Perm.refl _
    · exact ((insI_perm x r).cons y).trans (List.Perm.swap x y r)
theorem srtI_perm : ∀ l : List Int, (srtI l).Perm l
  | [] => List.Perm.refl _
  | x :: r => (insI_perm x (srtI r)).trans ((srtI_perm r).cons x)
theorem insI_sorted (x : Int) : ∀ l : List Int, l.Pairwise (· ≤ ·) → (insI x l).Pairwise (· ≤ ·)
  | [], _ => List.pairwise_singleton _ _
  | y :: r, h => by
    obtain ⟨h1, h2⟩ := List.pairwise_cons.mp h
    show (if x ≤ y then x :: y :: r else y :: insI x r).Pairwise (· ≤ ·)
    split
    · rename_i q
      refine List.pairwise_cons.mpr ⟨fun z hz => ?_, h⟩
      rcases List.mem_cons.mp hz with e | hz
      · rw [e]; exact q
      · exact Int.le_trans q (h1 z hz)
    · rename_i q
      refine List.pairwise_cons.mpr ⟨fun z hz => ?_, insI_sorted x r h2⟩
      rcases List.mem_cons.mp ((insI_perm x r).mem_iff.mp hz) with e | hz
      · rw [e]; omega
      · exact h1 z hz
theorem srtI_sorted : ∀ l : List Int, (srtI l).Pairwise (· ≤ ·)
  | [] => .nil
  | x :: r => insI_sorted x _ (srtI_sorted r)
theorem sorted_eq : ∀ {l m : List Int}, l.Perm m → l.Pairwise (· ≤ ·) → m.Pairwise (· ≤ ·) → l = m
  | [], m, p, _, _ => (List.nil_perm.mp p).symm
  | x :: l, [], p, _, _ => absurd p.length_eq (by simp)
  | x :: l, y :: m, p, h, k => by
    obtain ⟨h1, h2⟩ := List.pairwise_cons.mp h
    obtain ⟨k1, k2⟩ := List.pairwise_cons.mp k
    have e : x = y := by
      have a : x ∈ y :: m := p.mem_iff.mp List.mem_cons_self
      have b : y ∈ x :: l := p.mem_iff.mpr List.mem_cons_self
      rcases List.mem_cons.mp a with a | a
      · exact a
      · rcases List.mem_cons.mp b with b | b
        · exact b.symm
        · have := h1 y b
          have := k1 x a
          omega
    subst e
    rw [sorted_eq ((List.perm_cons x).mp p) h2 k2]

/-! ### truths -/
theorem trus_len {K : PySem.W.Frag} {xo : XO} {H : Hp} : ∀ {vs : List V} {ds : List D} {us : List Value} {bs : List Bool}, DenAll K xo H vs ds → Vals vs us → trus? ds = some bs → bs.length = us.length
  | _, _, _, bs, .nil, .nil, e => by
    have e' := Option.some.inj (show some [] = some bs from e)
    rw [← e']
    rfl
  | _, d :: ds, _, bs, .cons h t, .cons r rr, e => by
    have e1 : (match truF d, trus? ds with
      | some b, some bs => some (b :: bs)
      | _, _ => none) = some bs := e
    split at e1
    · rename_i b cs q1 q2
      have e2 := Option.some.inj e1
      rw [← e2]
      show cs.length + 1 = _ + 1
      rw [trus_len t rr q2]
    · cases e1
theorem trus_at {K : PySem.W.Frag} {xo : XO} {H : Hp} : ∀ {vs : List V} {ds : List D} {us : List Value} {bs : List Bool}, DenAll K xo H vs ds → Vals vs us → trus? ds = some bs →
    ∀ (i : Nat) v, us[i]? = some v → (v = Value.none ∧ bs.getD i false = false) ∨ (∃ b, v = .bool b ∧ bs.getD i false = b) ∨ ∃ i' t, v = .int i' t ∧ bs.getD i false = (i' != 0)
  | _, _, _, _, .nil, .nil, _, i, v, hv => by simp at hv
  | _, d :: ds, _, bs, .cons h t, .cons r rr, e, i, v, hv => by
    have e1 : (match truF d, trus? ds with
      | some b, some bs => some (b :: bs)
      | _, _ => none) = some bs := e
    split at e1
    · rename_i b cs q1 q2
      have e2 := Option.some.inj e1
      subst e2
      cases i with
      | zero =>
        have hv' := Option.some.inj (show some _ = some v from hv)
        subst hv'
        show _ ∨ (∃ b', _ ∧ b = b') ∨ ∃ i' t, _ ∧ b = _
        cases h with
        | non => cases r; exact .inl ⟨rfl, (Option.some.inj q1).symm⟩
        | bl b' => cases r; exact .inr (.inl ⟨_, rfl, (Option.some.inj q1).symm⟩)
        | int i' =>
          obtain ⟨t', rfl⟩ := r
          exact .inr (.inr ⟨_, _, rfl, (Option.some.inj q1).symm⟩)
        | str _ => cases q1
        | scr _ _ => cases q1
        | lst _ _ => cases q1
        | tup _ _ => cases q1
        | exc0 _ _ => cases q1
        | exc1 _ _ _ _ => cases q1
      | succ i => exact trus_at t rr q2 i v (by simpa using hv)
    · cases e1

/-! ### the calls -/
def biName : Bi → Str
  | .len => "len" | .abs => "abs" | .int => "int" | .all => "all" | .any => "any" | .sum => "sum" | .tuple => "tuple" | .list => "list" | .min => "min" | .max => "max" | .isi _ => "isinstance" | .sorted => "sorted"
def biVal : Bi → Value
  | .len => .builtin "len" | .abs => .builtin "abs" | .int => .type "int" | .all => .builtin "all" | .any => .builtin "any" | .sum => .builtin "sum" | .tuple => .type "tuple" | .list => .type "list"
  | .min => .builtin "min" | .max => .builtin "max" | .isi _ => .builtin "isinstance" | .sorted => .builtin "sorted"
theorem bi_boot (f : Bi) : bootBuiltins (biName f) = some (biVal f) := by
  cases f <;> first | decide +kernel | (show bootBuiltins ("isinstance" : Str) = some (Value.builtin "isinstance"); decide +kernel)
def tyStr : Ty → String
  | .int => "int" | .bool => "bool" | .str => "str" | .tuple => "tuple" | .list => "list"
theorem ty_boot (t : Ty) : bootBuiltins (Str.ofString (tyStr t)) = some (.type (tyStr t)) := by cases t <;> decide +kernel
/-- the built-in type of data -/
def tyOfD : D → Option String
  | .none => some "NoneType" | .bool _ => some "bool" | .int _ => some "int" | .str _ => some "str" | .list _ => some "list" | .tuple _ => some "tuple" | .dict _ => none

section
variable {X : Cx} {xo : XO} {mg : Str → Option Value} {W : WX}
theorem den_ty {K : PySem.W.Frag} {H : Hp} {v : V} {d : D} {T : String} (h : Den K xo H v d) (e : tyOfD d = some T) : TyX K H v (.type T) := by
  cases h with
  | non => cases e; exact .base .non
  | bl b => cases e; exact .base (.bl b)
  | int i => cases e; exact .base (.int i)
  | str x => cases e; exact .base (.str x)
  | scr _ _ => cases e
  | lst h _ => cases e; exact .base (.lst h)
  | tup h _ =>
    cases e
    rcases h with (h | ⟨o, h⟩) | ⟨o, its, n, hk, hc, _⟩
    · exact .base (.tup h)
    · exact .fTuple h
    · exact .kTuple hk hc
  | exc0 _ _ => cases e
  | exc1 _ _ _ _ => cases e
theorem kit_all (t : Ty) (d : D) (T : String) (e : tyOfD d = some T) : kitB T (tyStr t) = some (tyIs t d) := by
  cases d with
  | none => cases e; cases t <;> decide +kernel
  | bool b => cases e; cases t <;> (show kitB _ _ = some _) <;> simp only [tyIs, tyStr] <;> decide +kernel
  | int i => cases e; cases t <;> simp only [tyIs, tyStr] <;> decide +kernel
  | str x => cases e; cases t <;> simp only [tyIs, tyStr] <;> decide +kernel
  | list xs => cases e; cases t <;> simp only [tyIs, tyStr] <;> decide +kernel
  | tuple xs => cases e; cases t <;> simp only [tyIs, tyStr] <;> decide +kernel
  | dict _ => cases e

theorem ints_vals {K : PySem.W.Frag} {H : Hp} {vs : List V} {ds : List D} {ns : List Int} (h : DenAll K xo H vs ds) (e : ints? ds = some ns) : vs = ns.map V.int := h.ints e
theorem den_ints {K : PySem.W.Frag} {H : Hp} : ∀ ns : List Int, DenAll K xo H (ns.map V.int) (ns.map PyData.int)
  | [] => .nil
  | n :: ns => .cons (.int n) (den_ints ns)
/-- all, any of plain data: over a list or a tuple -/
theorem anyT {Q : VK} {pins : List (Addr × Obj)} {s : Shared} {σ : L2.St} {H F : Hp} {a : Addr} {vs : List V} {ds : List D} {bs : List Bool} (hc : X.calm = true) (I : L2.Inv X pins σ H s) (hs : SqT X.K H a vs) (h : DenAll X.K xo F vs ds) (e : trus? ds = some bs)
    (q : Q (.bl (bs.any id)) H) : wpAny (model X.prog X.w) X.A (PySem.call (.builtin "any") [.ref a]) (EP X pins σ Q) X.xe s := by
  obtain ⟨its, rv, hl, _⟩ := I.tuple hs
  refine call_any_walk (iterT (show s.heap.IsTuple a its.toArray from hl) fun s2 e2 st _ hne => ?_)
  subst e2
  refine ⟨_, _, _, _, _, _, _, rfl, Walks.tuple (A := X.A.in1) (I.ok.hd hc) _ a hne its.toArray, st, truthInts (trus_at h rv e), fun h' tk hk => ?_⟩
  refine ⟨.bl _, H, I.kept (keepT hk), ?_, q⟩
  show Value.bool _ = Value.bool _
  rw [← L2.any_range, trus_len h rv e, List.size_toArray]
theorem allT {Q : VK} {pins : List (Addr × Obj)} {s : Shared} {σ : L2.St} {H F : Hp} {a : Addr} {vs : List V} {ds : List D} {bs : List Bool} (hc : X.calm = true) (I : L2.Inv X pins σ H s) (hs : SqT X.K H a vs) (h : DenAll X.K xo F vs ds) (e : trus? ds = some bs)
    (q : Q (.bl (bs.all id)) H) : wpAny (model X.prog X.w) X.A (PySem.call (.builtin "all") [.ref a]) (EP X pins σ Q) X.xe s := by
  obtain ⟨its, rv, hl, _⟩ := I.tuple hs
  refine call_all_walk (iterT (show s.heap.IsTuple a its.toArray from hl) fun s2 e2 st _ hne => ?_)
  subst e2
  refine ⟨_, _, _, _, _, _, _, rfl, Walks.tuple (A := X.A.in1) (I.ok.hd hc) _ a hne its.toArray, st, truthInts (trus_at h rv e), fun h' tk hk => ?_⟩
  refine ⟨.bl _, H, I.kept (keepT hk), ?_, q⟩
  show Value.bool _ = Value.bool _
  rw [← L2.all_range, trus_len h rv e, List.size_toArray]
theorem anyL {Q : VK} {pins : List (Addr × Obj)} {s : Shared} {σ : L2.St} {H F : Hp} {a : Addr} {vs : List V} {ds : List D} {bs : List Bool} (hc : X.calm = true) (I : L2.Inv X pins σ H s) (hs : SqL X.K H a vs) (h : DenAll X.K xo F vs ds) (e : trus? ds = some bs)
    (q : Q (.bl (bs.any id)) H) : wpAny (model X.prog X.w) X.A (PySem.call (.builtin "any") [.ref a]) (EP X pins σ Q) X.xe s := by
  obtain ⟨its, rv, hl, _⟩ := I.list hs
  refine call_any_walk (iter_any hl.isList fun s2 e2 st hne => ?_)
  subst e2
  refine ⟨_, _, _, _, _, _, _, rfl, Walks.list (A := X.A.in1) (I.ok.hd hc) _ a hne its.toArray, st, truthInts (trus_at h rv e), fun h' tk hk => ?_⟩
  refine ⟨.bl _, H, I.kept (keepT hk), ?_, q⟩
  show Value.bool _ = Value.bool _
  rw [← L2.any_range, trus_len h rv e, List.size_toArray]
theorem allL {Q : VK} {pins : List (Addr × Obj)} {s : Shared} {σ : L2.St} {H F : Hp} {a : Addr} {vs : List V} {ds : List D} {bs : List Bool} (hc : X.calm = true) (I : L2.Inv X pins σ H s) (hs : SqL X.K H a vs) (h : DenAll X.K xo F vs ds) (e : trus? ds = some bs)
    (q : Q (.bl (bs.all id)) H) : wpAny (model X.prog X.w) X.A (PySem.call (.builtin "all") [.ref a]) (EP X pins σ Q) X.xe s := by
  obtain ⟨its, rv, hl, _⟩ := I.list hs
  refine call_all_walk (iter_any hl.isList fun s2 e2 st hne => ?_)
  subst e2
  refine ⟨_, _, _, _, _, _, _, rfl, Walks.list (A := X.A.in1) (I.ok.hd hc) _ a hne its.toArray, st, truthInts (trus_at h rv e), fun h' tk hk => ?_⟩
  refine ⟨.bl _, H, I.kept (keepT hk), ?_, q⟩
  show Value.bool _ = Value.bool _
  rw [← L2.all_range, trus_len h rv e, List.size_toArray]

/-- sum, max, min of a tuple of ints -/
theorem intsT {ns : List Int} {its : List Value} (rv : Vals (ns.map V.int) its) : ∃ xs : Array (Int × Tok), its.toArray = intItems xs ∧ numsOf (intItems xs).toList = ns := by
  obtain ⟨xs, e⟩ := rv.ints.allInts.items
  exact ⟨xs, e, by rw [← e]; exact rv.ints.numsOf⟩
theorem sumT {Q : VK} {pins : List (Addr × Obj)} {s : Shared} {σ : L2.St} {H : Hp} {a : Addr} {ns : List Int} (hc : X.calm = true) (I : L2.Inv X pins σ H s) (hs : SqT X.K H a (ns.map V.int))
    (q : Q (.int ns.sum) H) : wpAny (model X.prog X.w) X.A (PySem.call (.builtin "sum") [.ref a]) (EP X pins σ Q) X.xe s := by
  obtain ⟨its, rv, hl, _⟩ := I.tuple hs
  obtain ⟨xs, e, en⟩ := intsT rv
  replace hl : s.heap.IsTuple a (intItems xs) := by rw [← e]; exact hl
  refine call_sum_walkG (iterT hl fun s2 e2 st hfp hne => ?_)
  subst e2
  refine ⟨_, _, _, _, _, _, numAt xs, rfl, Walks.tuple (A := X.A.in1) (I.ok.hd hc) _ a hne (intItems xs), st, hfp, (fun _ _ => intItems_at), fun h' tk t' hk => ?_⟩
  refine ⟨.int ns.sum, H, I.kept (keepT hk), ⟨t', ?_⟩, q⟩
  have en' := en
  rw [nums_intItems] at en'
  rw [show (intItems xs).size = xs.size by simp [intItems], preSum_eq, List.take_of_length_le (by simp), en']
theorem maxT {Q : VK} {pins : List (Addr × Obj)} {s : Shared} {σ : L2.St} {H : Hp} {a : Addr} {x : Int} {r : List Int} (hc : X.calm = true) (I : L2.Inv X pins σ H s) (hs : SqT X.K H a ((x :: r).map V.int))
    (q : Q (.int (maxI (x :: r))) H) : wpAny (model X.prog X.w) X.A (PySem.call (.builtin "max") [.ref a]) (EP X pins σ Q) X.xe s := by
  obtain ⟨its, rv, hl, _⟩ := I.tuple hs
  obtain ⟨xs, e, en⟩ := intsT rv
  replace hl : s.heap.IsTuple a (intItems xs) := by rw [← e]; exact hl
  have en' := en
  rw [nums_intItems] at en'
  have hsz : 0 < xs.size := by
    have := congrArg List.length en'
    simp at this
    omega
  refine call_max_walk (iterT hl fun s2 e2 st hfp hne => ?_)
  subst e2
  refine ⟨_, _, _, _, _, _, _, rfl, Walks.tuple (A := X.A.in1) (I.ok.hd hc) _ a hne (intItems xs), st, hfp, by simpa [intItems] using hsz, CmpOf.ints_gt (numAt xs) (fun _ _ => intItems_at), fun v h' tk hP hk => ?_⟩
  obtain ⟨t, rfl⟩ := intItems_at hP
  obtain ⟨h1, h2⟩ := argBest_gt (numAt xs) ((intItems xs).size - 1)
  refine ⟨.int (maxI (x :: r)), H, I.kept (keepT hk), ⟨t, ?_⟩, q⟩
  have hm : numAt xs (argBest (fun i j => decide (numAt xs i > numAt xs j)) ((intItems xs).size - 1)) ∈ x :: r := by
    rw [← en', numAt_eq]
    exact PySem.getD_mem (by rw [List.length_map, Array.length_toList]; have : (intItems xs).size = xs.size := by simp [intItems]
                             omega)
  have hb : ∀ z ∈ x :: r, z ≤ numAt xs (argBest (fun i j => decide (numAt xs i > numAt xs j)) ((intItems xs).size - 1)) := fun z hz => by
    rw [← en'] at hz
    obtain ⟨j, hj, rfl⟩ := mem_getD hz
    rw [List.length_map, Array.length_toList] at hj
    rw [← numAt_eq]
    exact h2 j (by have : (intItems xs).size = xs.size := by simp [intItems]
                   omega)
  rw [Int.le_antisymm (maxI_le x r _ hm) (hb _ (maxI_mem x r))]
theorem minT {Q : VK} {pins : List (Addr × Obj)} {s : Shared} {σ : L2.St} {H : Hp} {a : Addr} {x : Int} {r : List Int} (hc : X.calm = true) (I : L2.Inv X pins σ H s) (hs : SqT X.K H a ((x :: r).map V.int))
    (q : Q (.int (minI (x :: r))) H) : wpAny (model X.prog X.w) X.A (PySem.call (.builtin "min") [.ref a]) (EP X pins σ Q) X.xe s := by
  obtain ⟨its, rv, hl, _⟩ := I.tuple hs
  obtain ⟨xs, e, en⟩ := intsT rv
  replace hl : s.heap.IsTuple a (intItems xs) := by rw [← e]; exact hl
  have en' := en
  rw [nums_intItems] at en'
  have hsz : 0 < xs.size := by
    have := congrArg List.length en'
    simp at this
    omega
  refine call_min_walk (iterT hl fun s2 e2 st hfp hne => ?_)
  subst e2
  refine ⟨_, _, _, _, _, _, _, rfl, Walks.tuple (A := X.A.in1) (I.ok.hd hc) _ a hne (intItems xs), st, hfp, by simpa [intItems] using hsz, CmpOf.ints_lt (numAt xs) (fun _ _ => intItems_at), fun v h' tk hP hk => ?_⟩
  obtain ⟨t, rfl⟩ := intItems_at hP
  obtain ⟨h1, h2⟩ := argBest_lt (numAt xs) ((intItems xs).size - 1)
  refine ⟨.int (minI (x :: r)), H, I.kept (keepT hk), ⟨t, ?_⟩, q⟩
  have hm : numAt xs (argBest (fun i j => decide (numAt xs i < numAt xs j)) ((intItems xs).size - 1)) ∈ x :: r := by
    rw [← en', numAt_eq]
    exact PySem.getD_mem (by rw [List.length_map, Array.length_toList]; have : (intItems xs).size = xs.size := by simp [intItems]
                             omega)
  have hb : ∀ z ∈ x :: r, numAt xs (argBest (fun i j => decide (numAt xs i < numAt xs j)) ((intItems xs).size - 1)) ≤ z := fun z hz => by
    rw [← en'] at hz
    obtain ⟨j, hj, rfl⟩ := mem_getD hz
    rw [List.length_map, Array.length_toList] at hj
    rw [← numAt_eq]
    exact h2 j (by have : (intItems xs).size = xs.size := by simp [intItems]
                   omega)
  rw [Int.le_antisymm (hb _ (minI_mem x r)) (minI_le x r _ hm)]

theorem bi_ok (hc : X.calm = true) (f : Bi) (hf : ∀ t, f ≠ .isi t) : CallR X (biVal f) (rBi X.K xo mg W f) := by
  intro pins s σ H xs us Q I rv h
  obtain ⟨B, F, σ', e, ds, dv, r, hd, hb, post⟩ := h
  unfold bi at hb
  split at hb
  · -- len of a list
    cases hd with
    | cons h1 t =>
      cases t
      cases h1 with
      | lst h2 a2 =>
        have z := Option.some.inj hb
        subst z
        refine call_len_seq pins s σ H _ us Q I rv ⟨_, _, rfl, .inl (.inl (.inl (r.sub _ _ h2))), ?_⟩
        rw [a2.length]
        exact post_val r post (.int _)
  · cases hd with
    | cons h1 t =>
      cases t
      cases h1 with
      | tup h2 a2 =>
        have z := Option.some.inj hb
        subst z
        refine call_len_seq pins s σ H _ us Q I rv ⟨_, _, rfl, .inr (sqt_mono r.sub h2), ?_⟩
        rw [a2.length]
        exact post_val r post (.int _)
  · cases hd with
    | cons h1 t =>
      cases t
      cases h1 with
      | scr h2 a2 =>
        have z := Option.some.inj hb
        subst z
        refine call_len_seq pins s σ H _ us Q I rv ⟨_, _, rfl, .inl (r.sub.seq h2), ?_⟩
        rw [a2.length]
        exact post_val r post (.int _)
  · split at hb
    · rename_i hl
      cases hd with
      | cons h1 t =>
        cases t
        cases h1
        have z := Option.some.inj hb
        subst z
        exact call_len_str pins s σ H _ us Q I rv ⟨_, rfl, lim_line hl, post_val r post (.int _)⟩
    · cases hb
  · cases hd with
    | cons h1 t =>
      cases t
      cases h1
      have z := Option.some.inj hb
      subst z
      exact call_abs pins s σ H _ us Q I rv ⟨_, rfl, post_val r post (.int _)⟩
  · cases hd with
    | cons h1 t =>
      cases t
      cases h1
      have z := Option.some.inj hb
      subst z
      exact call_int1 pins s σ H _ us Q I rv (.inl ⟨_, rfl, post_val r post (.int _)⟩)
  · cases hd with
    | cons h1 t =>
      cases t
      cases h1
      have z := Option.some.inj hb
      subst z
      exact call_int1 pins s σ H _ us Q I rv (.inr ⟨_, rfl, post_val r post (.int _)⟩)
  · obtain ⟨bs, eb, z⟩ := Option.map_eq_some_iff.mp hb
    subst z
    cases hd with
    | cons h1 t =>
      cases t
      cases h1 with
      | lst h2 a2 =>
        rw [Vals.ref1 rv]
        exact allL hc I (.inl (.inl (r.sub _ _ h2))) a2 eb (post_val r post (.bl _))
  · obtain ⟨bs, eb, z⟩ := Option.map_eq_some_iff.mp hb
    subst z
    cases hd with
    | cons h1 t =>
      cases t
      cases h1 with
      | lst h2 a2 =>
        rw [Vals.ref1 rv]
        exact anyL hc I (.inl (.inl (r.sub _ _ h2))) a2 eb (post_val r post (.bl _))
  · obtain ⟨bs, eb, z⟩ := Option.map_eq_some_iff.mp hb
    subst z
    cases hd with
    | cons h1 t =>
      cases t
      cases h1 with
      | tup h2 a2 =>
        rw [Vals.ref1 rv]
        exact allT hc I (sqt_mono r.sub h2) a2 eb (post_val r post (.bl _))
  · obtain ⟨bs, eb, z⟩ := Option.map_eq_some_iff.mp hb
    subst z
    cases hd with
    | cons h1 t =>
      cases t
      cases h1 with
      | tup h2 a2 =>
        rw [Vals.ref1 rv]
        exact anyT hc I (sqt_mono r.sub h2) a2 eb (post_val r post (.bl _))
  · obtain ⟨ns, eb, z⟩ := Option.map_eq_some_iff.mp hb
    subst z
    cases hd with
    | cons h1 t =>
      cases t
      cases h1 with
      | lst h2 a2 =>
        have ev := a2.ints eb
        subst ev
        exact cr_sum hc pins s σ H _ us Q I rv ⟨_, _, rfl, .inl (.inl (r.sub _ _ h2)), post_val r post (.int _)⟩
  · obtain ⟨ns, eb, z⟩ := Option.map_eq_some_iff.mp hb
    subst z
    cases hd with
    | cons h1 t =>
      cases t
      cases h1 with
      | tup h2 a2 =>
        have ev := a2.ints eb
        subst ev
        rw [Vals.ref1 rv]
        exact sumT hc I (sqt_mono r.sub h2) (post_val r post (.int _))
  · cases hd with
    | cons h1 t =>
      cases t
      cases h1 with
      | lst h2 a2 =>
        have z := Option.some.inj hb
        subst z
        exact call_tuple_of pins s σ H _ us Q I rv ⟨_, _, rfl, .inl ⟨.inl (.inl (r.sub _ _ h2)), post_tup r post a2⟩⟩
  · cases hd with
    | cons h1 t =>
      cases t
      cases h1 with
      | tup h2 a2 =>
        have z := Option.some.inj hb
        subst z
        exact call_tuple_of pins s σ H _ us Q I rv ⟨_, _, rfl, .inr ⟨sqt_mono r.sub h2, post_val r post (.tup h2 a2)⟩⟩
  · cases hd with
    | cons h1 t =>
      cases t
      cases h1 with
      | lst h2 a2 =>
        have z := Option.some.inj hb
        subst z
        exact call_list_of pins s σ H _ us Q I rv ⟨_, _, rfl, .inl (.inl (.inl (r.sub _ _ h2))), post_lst r post a2⟩
  · cases hd with
    | cons h1 t =>
      cases t
      cases h1 with
      | tup h2 a2 =>
        have z := Option.some.inj hb
        subst z
        exact call_list_of pins s σ H _ us Q I rv ⟨_, _, rfl, .inr (sqt_mono r.sub h2), post_lst r post a2⟩
  · cases hd with
    | cons h1 t =>
      cases h1
      cases t with
      | cons h2 t =>
        cases t
        cases h2
        have z := Option.some.inj hb
        subst z
        exact call_min2 hc pins s σ H _ us Q I rv ⟨_, _, rfl, post_val r post (.int _)⟩
  · cases hd with
    | cons h1 t =>
      cases h1
      cases t with
      | cons h2 t =>
        cases t
        cases h2
        have z := Option.some.inj hb
        subst z
        exact call_max2 hc pins s σ H _ us Q I rv ⟨_, _, rfl, post_val r post (.int _)⟩
  · split at hb
    · rename_i x0 r0 eb
      have z := Option.some.inj hb
      subst z
      cases hd with
      | cons h1 t =>
        cases t
        cases h1 with
        | lst h2 a2 =>
          have ev := a2.ints eb
          subst ev
          refine cr_max hc pins s σ H _ us Q I rv ⟨_, _, rfl, .inl (.inl (r.sub _ _ h2)), by simp, fun m hm hb' => ?_⟩
          rw [Int.le_antisymm (maxI_le x0 r0 m hm) (hb' _ (maxI_mem x0 r0))]
          exact post_val r post (.int _)
    · cases hb
  · split at hb
    · rename_i x0 r0 eb
      have z := Option.some.inj hb
      subst z
      cases hd with
      | cons h1 t =>
        cases t
        cases h1 with
        | lst h2 a2 =>
          have ev := a2.ints eb
          subst ev
          refine cr_min hc pins s σ H _ us Q I rv ⟨_, _, rfl, .inl (.inl (r.sub _ _ h2)), by simp, fun m hm hb' => ?_⟩
          rw [Int.le_antisymm (hb' _ (minI_mem x0 r0)) (minI_le x0 r0 m hm)]
          exact post_val r post (.int _)
    · cases hb
  · split at hb
    · rename_i x0 r0 eb
      have z := Option.some.inj hb
      subst z
      cases hd with
      | cons h1 t =>
        cases t
        cases h1 with
        | tup h2 a2 =>
          have ev := a2.ints eb
          subst ev
          rw [Vals.ref1 rv]
          exact maxT hc I (sqt_mono r.sub h2) (post_val r post (.int _))
    · cases hb
  · split at hb
    · rename_i x0 r0 eb
      have z := Option.some.inj hb
      subst z
      cases hd with
      | cons h1 t =>
        cases t
        cases h1 with
        | tup h2 a2 =>
          have ev := a2.ints eb
          subst ev
          rw [Vals.ref1 rv]
          exact minT hc I (sqt_mono r.sub h2) (post_val r post (.int _))
    · cases hb
  · exact absurd rfl (hf _)
  · exact absurd rfl (hf _)
  · obtain ⟨ns, eb, z⟩ := Option.map_eq_some_iff.mp hb
    subst z
    cases hd with
    | cons h1 t =>
      cases t
      cases h1 with
      | lst h2 a2 =>
        have ev := a2.ints eb
        subst ev
        refine cr_sortedI pins s σ H _ us Q I rv ⟨_, ns, rfl, .inl (.inl (r.sub _ _ h2)), fun ns' p pm ps hp => ?_⟩
        rw [sorted_eq (pm.trans (srtI_perm ns).symm) ps (srtI_sorted ns)]
        exact post_lst r post (den_ints _) p hp
  · cases hb
theorem isi_ok (t : Ty) : CallR X (.builtin "isinstance") (fun vs H Q => ∃ (F : Hp) (v : V) (d : D) (b : D), vs = [v, .ty (tyStr t)] ∧ Same F H ∧ Den X.K xo F v d ∧ bi (.isi t) [d] = some (.d b) ∧ (∃ k, b = .bool k ∧ Q (.bl k) H)) := by
  intro pins s σ H xs us Q I rv h
  obtain ⟨F, v, d, b, rfl, sb, hd, hb, k, rfl, q⟩ := h
  cases e : tyOfD d with
  | none =>
    cases d <;> first | (cases e; done) | exact absurd hb (by simp [bi])
  | some T =>
    have e2 : tyIs t d = k := by
      have h2 : some (DV.d (.bool (tyIs t d))) = some (DV.d (.bool k)) := by
        cases d <;> first | (cases e; done) | exact hb
      injection h2 with h2
      injection h2 with h2
      injection h2
    refine call_isi pins s σ H _ us Q I rv ⟨v, _, .type T, .type (tyStr t), k, rfl, .ty _, den_ty (hd.mono sb) e, ?_, q⟩
    rw [← e2]
    exact kit_ty (kit_all t d T e)
end
end DL


set_option Elab.async false
set_option linter.all false
set_option maxRecDepth 100000
set_option maxHeartbeats 2000000
/-! DL4: zip of two or three lists or tuples, strict or not. -/
namespace DL
open PySem PySem.Spec PyProof.Rows L2
open PySem.Builtin.SmallTypes (nextOf nextOrEnd)

/-- an iterator of a tuple (true) or a list -/
def SIt (h : Heap) (t : Bool) (it a : Addr) (i : Nat) : Prop := if t = true then h.IsTupleIter it a i else h.IsListIter it a i
def SOb (h : Heap) (t : Bool) (a : Addr) (items : Array Value) : Prop := if t = true then h.IsTuple a items else h.IsList a items
def itCls (t : Bool) : String := if t then "tuple_iterator" else "list_iterator"
theorem SIt.at {h h' : Heap} {t : Bool} {it a : Addr} {i : Nat} (x : SIt h t it a i) (k : ∀ o, h.get? it = some o → h'.get? it = some o) : SIt h' t it a i := by
  cases t
  · exact Heap.IsListIter.at (h := h) (show h.IsListIter it a i from x) k
  · exact Heap.IsTupleIter.at (h := h) (show h.IsTupleIter it a i from x) k
theorem SOb.at {h h' : Heap} {t : Bool} {a : Addr} {its : Array Value} (x : SOb h t a its) (k : ∀ o, h.get? a = some o → h'.get? a = some o) : SOb h' t a its := by
  cases t
  · exact Heap.IsList.at (h := h) (show h.IsList a its from x) k
  · obtain ⟨o, ho, r⟩ := (show h.IsTuple a its from x)
    exact ⟨o, k _ ho, r⟩
theorem SIt.lt {h : Heap} {t : Bool} {it a : Addr} {i : Nat} (x : SIt h t it a i) : it < h.objs.size := by
  cases t
  · obtain ⟨o, ho, _⟩ := (show h.IsListIter it a i from x)
    exact Heap.lt_size ho
  · obtain ⟨o, ho, _⟩ := (show h.IsTupleIter it a i from x)
    exact Heap.lt_size ho
theorem SIt.obj {h : Heap} {t : Bool} {it a : Addr} {i : Nat} (x : SIt h t it a i) : ∃ o, h.get? it = some o ∧ ∀ v, o.data ≠ .cell v := by
  cases t
  · obtain ⟨o, ho, _, d⟩ := (show h.IsListIter it a i from x)
    exact ⟨o, ho, fun v z => by rw [d] at z; cases z⟩
  · obtain ⟨o, ho, _, d⟩ := (show h.IsTupleIter it a i from x)
    exact ⟨o, ho, fun v z => by rw [d] at z; cases z⟩

section
variable {prog : Program} {w : World} {A : Around} {E : Value → Shared → Prop} {s : Shared} {t : Bool} {it l : Addr} {i : Nat} {items : Array Value}
theorem nextS {x : Value} {Q : Value → Shared → Prop} (hit : SIt s.heap t it l i) (hl : SOb s.heap t l items) (hx : items[i]? = some x)
    (hQ : ∀ h', SIt h' t it l (i + 1) → Heap.SameBut it s.heap h' → Q x { s with heap := h' }) : wpAny (model prog w) A (nextOf (.ref it)) Q E s := by
  cases t
  · exact wpAny_nextOf_list_item hit hl hx fun h' a b => hQ h' a b
  · exact RZ.nextOf_tuple_item hit hl hx fun h' a b => hQ h' a b
theorem nextE {Q : Value → Shared → Prop} (hh : A.handled = none) (hit : SIt s.heap t it l i) (hl : SOb s.heap t l items) (hx : items[i]? = none)
    (hE : ∀ h' e, Heap.ExtBut it s.heap h' → (∃ o, h'.get? e = some o ∧ o.cls = .type "StopIteration") → E (.ref e) { s with heap := h' }) : wpAny (model prog w) A (nextOf (.ref it)) Q E s := by
  cases t
  · exact wpAny_nextOf_list_end hh hit hl hx hE
  · exact RZ.nextOf_tuple_end hh hit hl hx hE
theorem nextS' {x : Value} {Q : Option Value → Shared → Prop} (hit : SIt s.heap t it l i) (hl : SOb s.heap t l items) (hx : items[i]? = some x)
    (hQ : ∀ h', SIt h' t it l (i + 1) → Heap.SameBut it s.heap h' → Q (some x) { s with heap := h' }) : wpAny (model prog w) A (nextOrEnd (.ref it)) Q E s := by
  unfold Builtin.SmallTypes.nextOrEnd
  exact wpAny_bind (wpAny_attempt (nextS hit hl hx fun h' a b => wpAny_pure (hQ h' a b)))
theorem nextE' {Q : Option Value → Shared → Prop} (hh : A.handled = none) (hit : SIt s.heap t it l i) (hl : SOb s.heap t l items) (hx : items[i]? = none)
    (hQ : ∀ h', Heap.ExtBut it s.heap h' → Q none { s with heap := h' }) : wpAny (model prog w) A (nextOrEnd (.ref it)) Q E s := by
  unfold Builtin.SmallTypes.nextOrEnd
  refine wpAny_bind (wpAny_attempt (nextE hh hit hl hx fun h' e k ho => ?_))
  obtain ⟨o, ho, hc⟩ := ho
  exact wpAny_bind (wpAny_isInstance (T := "StopIteration") (b := true) ⟨o, ho, hc⟩ isSubtype_stop (wpAny_pure (hQ h' k)))
theorem stopS {α : Type} {Q : α → Shared → Prop} (hh : A.handled = none)
    (hE : ∀ h' e, (∀ b o, s.heap.get? b = some o → h'.get? b = some o) → (∃ o, h'.get? e = some o ∧ o.cls = .type "StopIteration") → E (.ref e) { s with heap := h' }) :
    wpAny (model prog w) A (Builtin.SmallTypes.stopIteration : Sem α) Q E s := by
  unfold Builtin.SmallTypes.stopIteration
  refine wpAny_bind ?_
  simp only [newExc, newTuple]
  refine wpAny_bind (wpAny_newObj_type ?_ (by size_fits))
  refine wpAny_bind (m := firstArgMember _ _) (wpAny_of_eq (a := Value.none) (by first | rfl | (simp only [firstArgMember]; rfl)) ?_)
  refine wpAny_newObj_type ?_ (by size_fits)
  simp only [raiseNew]
  refine wpAny_bind (wpAny_handled ?_)
  rw [hh]
  refine wpAny_bind (wpAny_pure (wpAny_throw (hE _ _ (fun b o q => Heap.get?_push_of_some _ (Heap.get?_push_of_some _ q)) ⟨_, Heap.get?_push_size _ rfl, rfl⟩)))
end
section
variable {prog : Program} {w : World} {A : Around} {E : Value → Shared → Prop} {s : Shared}
theorem objInitKw {T newId : String} {self : Value} {rest : List Value} {kw : List (Str × Value)} (hl : typeLookup (.type T) "__init__" = pure (some (.builtin "object.__init__")))
    (hm : Bind.madeBy (.type T) = pure (some newId)) (hne : (some newId != some "object.__new__") = true) :
    Meets (Builtin.«object.__init__» ⟨self :: rest, kw⟩) (fun _ R s => s.TypeIs self T ∧ R (.ok (.ret .none)) s) := by
  refine Meets.of_wp fun prog w A R s hs => ?_
  obtain ⟨hT, hq⟩ := hs
  cases rest with
  | nil =>
    cases kw with
    | nil => exact wpAny_pure ⟨_, rfl, hq⟩
    | cons k ks =>
      repeat (any_goals (first | assumption | wp_step))
      exact ⟨_, rfl, hq⟩
  | cons a rest =>
    repeat (any_goals (first | assumption | wp_step))
    exact ⟨_, rfl, hq⟩
theorem callZip {args : List Value} {kw : List (Str × Value)} {S : PySem.Spec} {Q : Value → Shared → Prop}
    (hct : checkTypeCall "zip" ⟨args, kw⟩ = pure ()) (hcn : checkBuiltinCall "zip.__new__" ⟨.type "zip" :: args, kw⟩ = pure ())
    (hok : ∀ obj, argsOk "object.__init__" ⟨obj :: args, kw⟩) (g : Meets (Builtin.«zip.__new__» ⟨.type "zip" :: args, kw⟩) S)
    (h : S A.in1 (wants (fun obj s1 => s1.TypeIs obj "zip" ∧ Q obj s1) E) s) : wpAny (model prog w) A (call (.type "zip") args kw) Q E s := by
  have ft := F.called_zip
  obtain ⟨c, tl, hmro⟩ := ft.mro
  have hmade := ft.made
  have hsub := ft.sub
  refine wpAny_call (codeAny_of_tree ?_)
  refine (show wpAny _ _ (callAny (.type "zip") _) _ _ _ from ?_)
  refine wpAny_pure ⟨Code.quiet_builtin _ (by decide +kernel), codeAny_builtin F.entry_type_call ?_⟩
  rw [Around.under_plain (weight_type_call_type "zip" args kw) (units_type_call_type "zip" args kw)]
  have h1 := ft.notType
  have h2 := ft.canCreate
  repeat (any_goals (first | assumption | wp_step))
  refine codeAny_mono (codeAny_call_builtin ft.plain F.entry_zip_new (wpAny_of_eq hcn (g prog w A.in1 _ s h))) fun r s1 hr => ?_
  cases r with
  | error e => exact hr
  | ok fl =>
    cases fl with
    | ret obj =>
      obtain ⟨hT, hq⟩ := hr
      have hli := ft.init.lookup
      have hbi := ft.init.bind obj
      repeat (any_goals (first | assumption | wp_step))
      refine codeAny_mono (codeAny_call_builtin ft.init.plain F.entry_object_init (ft.init.check _ _ _ _ _ _ _ _ hT (hok obj)
        (objInitKw ft.init.lookup ft.made (by decide) prog w A.in1 (wants (fun r s2 => r = .none ∧ Q obj s2) E) s1 ⟨hT, rfl, hq⟩))) fun r2 s2 hr2 => ?_
      cases r2 with
      | error e => exact hr2
      | ok fl2 =>
        cases fl2 with
        | ret r =>
          obtain ⟨rfl, hq⟩ := hr2
          repeat (any_goals (first | assumption | wp_step))
        | _ => exact hr2.elim
    | _ => exact hr.elim
end

/-! ### the facts of zip's call -/
abbrev kwS (st : Bool) : List (Str × Value) := if st = true then [("strict", .bool true)] else []
theorem zct2 (st : Bool) (a b : Value) : checkTypeCall "zip" ⟨[a, b], kwS st⟩ = pure () := by cases st <;> kernel_rfl
theorem zcn2 (st : Bool) (a b : Value) : checkBuiltinCall "zip.__new__" ⟨[.type "zip", a, b], kwS st⟩ = pure () := by cases st <;> kernel_rfl
theorem zct3 (st : Bool) (a b c : Value) : checkTypeCall "zip" ⟨[a, b, c], kwS st⟩ = pure () := by cases st <;> kernel_rfl
theorem zcn3 (st : Bool) (a b c : Value) : checkBuiltinCall "zip.__new__" ⟨[.type "zip", a, b, c], kwS st⟩ = pure () := by cases st <;> kernel_rfl
theorem zai (st : Bool) (xs : List Value) (h : xs.length = 3 ∨ xs.length = 4) : argsOk "object.__init__" ⟨xs, kwS st⟩ := by
  match xs, h with
  | [a, b, c], _ =>
    cases st <;> (unfold argsOk; rw [signature?_of (id := "object.__init__") (n := ['_', '_', 'i', 'n', 'i', 't', '_', '_'].reverse) (o := "object".toList.reverse) (by kernel_rfl) F.owner_object]; kernel_rfl)
  | [a, b, c, d], _ =>
    cases st <;> (unfold argsOk; rw [signature?_of (id := "object.__init__") (n := ['_', '_', 'i', 'n', 'i', 't', '_', '_'].reverse) (o := "object".toList.reverse) (by kernel_rfl) F.owner_object]; kernel_rfl)
end DL


set_option Elab.async false
set_option linter.all false
set_option maxRecDepth 100000
set_option maxHeartbeats 2000000
namespace DL
open PySem PySem.Spec PyProof.Rows L2
open PySem.Builtin.SmallTypes (nextOf nextOrEnd)

abbrev ZipO (h : Heap) (z TI TO : Addr) (f0 : Value) (st : Bool) : Prop :=
  h.get? z = some { cls := .type "zip", dict := none, data := .fields #[f0, .bool false, .bool st, .ref TI, .ref TO], slots := #[] }
abbrev TupO (h : Heap) (T : Addr) (xs : Array Value) : Prop := h.get? T = some { cls := .type "tuple", data := .seq xs }
section
variable {prog : Program} {w : World} {A : Around} {E : Value → Shared → Prop} {s : Shared}
theorem iterS {t : Bool} {l : Addr} {items : Array Value} {Q : Value → Shared → Prop} (hl : SOb s.heap t l items)
    (h : Q (.ref s.heap.objs.size) { s with heap := s.heap.push { cls := .type (itCls t), data := .fields #[.ref l, .int 0 0] } }) : wpAny (model prog w) A (pyIter (.ref l)) Q E s := by
  cases t
  · exact wpAny_pyIter_list hl h
  · exact wpAny_pyIter_tuple hl h
theorem SIt.new {h : Heap} {t : Bool} {it l : Addr} (e : h.get? it = some { cls := .type (itCls t), data := .fields #[.ref l, .int 0 0] }) : SIt h t it l 0 := by
  cases t
  · exact ⟨_, e, rfl, rfl⟩
  · exact ⟨_, e, rfl, rfl⟩
theorem SOb.push {h : Heap} {t : Bool} {l : Addr} {items : Array Value} (hl : SOb h t l items) (o : Obj) : SOb (h.push o) t l items := hl.at fun _ q => Heap.get?_push_of_some _ q

/-- an iterator's record, as it is made -/
abbrev itO (t : Bool) (l : Addr) : Obj := { cls := .type (itCls t), data := .fields #[.ref l, .int 0 0] }
abbrev tuO (xs : Array Value) : Obj := { cls := .type "tuple", data := .seq xs }
theorem zipFin2 {R : Value → Heap → Prop} (hp : Heap) (st t1 t2 : Bool) (l1 l2 : Addr)
    (h : ∀ h', ZipO h' (hp.objs.size + 4) (hp.objs.size + 2) (hp.objs.size + 3) .none st → TupO h' (hp.objs.size + 2) #[.ref hp.objs.size, .ref (hp.objs.size + 1)] → TupO h' (hp.objs.size + 3) #[.none, .none] →
        SIt h' t1 hp.objs.size l1 0 → SIt h' t2 (hp.objs.size + 1) l2 0 → h'.objs.size = hp.objs.size + 5 → (∀ b o, hp.get? b = some o → h'.get? b = some o) → R (.ref (hp.objs.size + 4)) h') :
    R (.ref ((((hp.push (itO t1 l1)).push (itO t2 l2)).push (tuO #[.ref hp.objs.size, .ref (hp.push (itO t1 l1)).objs.size])).push (tuO #[.none, .none])).objs.size)
      (((((hp.push (itO t1 l1)).push (itO t2 l2)).push (tuO #[.ref hp.objs.size, .ref (hp.push (itO t1 l1)).objs.size])).push (tuO #[.none, .none])).push
        { cls := .type "zip", data := .fields #[.none, .bool false, .bool st, .ref ((hp.push (itO t1 l1)).push (itO t2 l2)).objs.size,
          .ref (((hp.push (itO t1 l1)).push (itO t2 l2)).push (tuO #[.ref hp.objs.size, .ref (hp.push (itO t1 l1)).objs.size])).objs.size] }) := by
  have z1 : (hp.push (itO t1 l1)).objs.size = hp.objs.size + 1 := Heap.size_push ..
  have z2 : ((hp.push (itO t1 l1)).push (itO t2 l2)).objs.size = hp.objs.size + 2 := by rw [Heap.size_push, z1]
  have z3 : (((hp.push (itO t1 l1)).push (itO t2 l2)).push (tuO #[.ref hp.objs.size, .ref (hp.push (itO t1 l1)).objs.size])).objs.size = hp.objs.size + 3 := by rw [Heap.size_push, z2]
  have z4 : ((((hp.push (itO t1 l1)).push (itO t2 l2)).push (tuO #[.ref hp.objs.size, .ref (hp.push (itO t1 l1)).objs.size])).push (tuO #[.none, .none])).objs.size = hp.objs.size + 4 := by rw [Heap.size_push, z3]
  rw [z4, z3, z2]
  have up : ∀ {h : Heap} {o u : Obj} {b : Addr}, h.get? b = some u → (h.push o).get? b = some u := fun q => Heap.get?_push_of_some _ q
  refine h _ ?_ ?_ ?_ (SIt.new ?_) (SIt.new ?_) ?_ fun b o q => up (up (up (up (up q))))
  · rw [ZipO, ← z4]; exact Heap.get?_push_size _ rfl
  · rw [TupO, ← z2, ← z1]; exact up (up (Heap.get?_push_size _ rfl))
  · rw [TupO, ← z3]; exact up (Heap.get?_push_size _ rfl)
  · exact up (up (up (up (Heap.get?_push_size _ rfl))))
  · rw [← z1]; exact up (up (up (Heap.get?_push_size _ rfl)))
  · rw [Heap.size_push, z4]
theorem zipNew2 (st t1 t2 : Bool) (l1 l2 : Addr) (xs ys : Array Value) :
    Meets (Builtin.«zip.__new__» ⟨[.type "zip", .ref l1, .ref l2], kwS st⟩) (fun _ R s => SOb s.heap t1 l1 xs ∧ SOb s.heap t2 l2 ys ∧
      ∀ h', ZipO h' (s.heap.objs.size + 4) (s.heap.objs.size + 2) (s.heap.objs.size + 3) .none st → TupO h' (s.heap.objs.size + 2) #[.ref s.heap.objs.size, .ref (s.heap.objs.size + 1)] → TupO h' (s.heap.objs.size + 3) #[.none, .none] →
        SIt h' t1 s.heap.objs.size l1 0 → SIt h' t2 (s.heap.objs.size + 1) l2 0 → h'.objs.size = s.heap.objs.size + 5 → (∀ b o, s.heap.get? b = some o → h'.get? b = some o) →
        R (.ok (.ret (.ref (s.heap.objs.size + 4)))) { s with heap := h' }) :=
  .of_wp fun prog w A R s h => by
    obtain ⟨hp, g, d, tk, os⟩ := s
    obtain ⟨a1, a2, h⟩ := h
    have hsub := sub_zip
    have b1 : SOb (Shared.heap ⟨hp, g, d, tk, os⟩) t1 l1 xs := a1
    have b2 : SOb (Shared.heap ⟨hp.push { cls := .type (itCls t1), data := .fields #[.ref l1, .int 0 0] }, g, d, tk, os⟩) t2 l2 ys := SOb.push a2 _
    cases st
    · show wpAny _ _ (Builtin.«zip.__new__» ⟨[.type "zip", .ref l1, .ref l2], []⟩) _ _ _
      wp_walk using iterS b1, iterS b2
      exact ⟨_, rfl, zipFin2 (R := fun v hh => R (.ok (.ret v)) ⟨hh, g, d, tk, os⟩) hp _ t1 t2 l1 l2 h⟩
    · show wpAny _ _ (Builtin.«zip.__new__» ⟨[.type "zip", .ref l1, .ref l2], [("strict", .bool true)]⟩) _ _ _
      wp_walk using iterS b1, iterS b2
      exact ⟨_, rfl, zipFin2 (R := fun v hh => R (.ok (.ret v)) ⟨hh, g, d, tk, os⟩) hp _ t1 t2 l1 l2 h⟩
theorem zipFin3 {R : Value → Heap → Prop} (hp : Heap) (st t1 t2 t3 : Bool) (l1 l2 l3 : Addr)
    (h : ∀ h', ZipO h' (hp.objs.size + 5) (hp.objs.size + 3) (hp.objs.size + 4) .none st → TupO h' (hp.objs.size + 3) #[.ref hp.objs.size, .ref (hp.objs.size + 1), .ref (hp.objs.size + 2)] → TupO h' (hp.objs.size + 4) #[.none, .none, .none] →
        SIt h' t1 hp.objs.size l1 0 → SIt h' t2 (hp.objs.size + 1) l2 0 → SIt h' t3 (hp.objs.size + 2) l3 0 → h'.objs.size = hp.objs.size + 6 → (∀ b o, hp.get? b = some o → h'.get? b = some o) → R (.ref (hp.objs.size + 5)) h') :
    R (.ref (((((hp.push (itO t1 l1)).push (itO t2 l2)).push (itO t3 l3)).push (tuO #[.ref hp.objs.size, .ref (hp.push (itO t1 l1)).objs.size, .ref ((hp.push (itO t1 l1)).push (itO t2 l2)).objs.size])).push (tuO #[.none, .none, .none])).objs.size) ((((((hp.push (itO t1 l1)).push (itO t2 l2)).push (itO t3 l3)).push (tuO #[.ref hp.objs.size, .ref (hp.push (itO t1 l1)).objs.size, .ref ((hp.push (itO t1 l1)).push (itO t2 l2)).objs.size])).push (tuO #[.none, .none, .none])).push { cls := .type "zip", data := .fields #[.none, .bool false, .bool st, .ref (((hp.push (itO t1 l1)).push (itO t2 l2)).push (itO t3 l3)).objs.size, .ref ((((hp.push (itO t1 l1)).push (itO t2 l2)).push (itO t3 l3)).push (tuO #[.ref hp.objs.size, .ref (hp.push (itO t1 l1)).objs.size, .ref ((hp.push (itO t1 l1)).push (itO t2 l2)).objs.size])).objs.size] }) := by
  have z1 : (hp.push (itO t1 l1)).objs.size = hp.objs.size + 1 := Heap.size_push ..
  have z2 : ((hp.push (itO t1 l1)).push (itO t2 l2)).objs.size = hp.objs.size + 2 := by rw [Heap.size_push, z1]
  have z3 : (((hp.push (itO t1 l1)).push (itO t2 l2)).push (itO t3 l3)).objs.size = hp.objs.size + 3 := by rw [Heap.size_push, z2]
  have z4 : ((((hp.push (itO t1 l1)).push (itO t2 l2)).push (itO t3 l3)).push (tuO #[.ref hp.objs.size, .ref (hp.push (itO t1 l1)).objs.size, .ref ((hp.push (itO t1 l1)).push (itO t2 l2)).objs.size])).objs.size = hp.objs.size + 4 := by rw [Heap.size_push, z3]
  have z5 : (((((hp.push (itO t1 l1)).push (itO t2 l2)).push (itO t3 l3)).push (tuO #[.ref hp.objs.size, .ref (hp.push (itO t1 l1)).objs.size, .ref ((hp.push (itO t1 l1)).push (itO t2 l2)).objs.size])).push (tuO #[.none, .none, .none])).objs.size = hp.objs.size + 5 := by rw [Heap.size_push, z4]
  rw [z5, z4, z3]
  have up : ∀ {h : Heap} {o u : Obj} {b : Addr}, h.get? b = some u → (h.push o).get? b = some u := fun q => Heap.get?_push_of_some _ q
  refine h _ ?_ ?_ ?_ (SIt.new ?_) (SIt.new ?_) (SIt.new ?_) ?_ fun b o q => up (up (up (up (up (up q)))))
  · rw [ZipO, ← z5]; exact Heap.get?_push_size _ rfl
  · rw [TupO, ← z3, ← z1, ← z2]; exact up (up (Heap.get?_push_size _ rfl))
  · rw [TupO, ← z4]; exact up (Heap.get?_push_size _ rfl)
  · exact up (up (up (up (up (Heap.get?_push_size _ rfl)))))
  · rw [← z1]; exact up (up (up (up (Heap.get?_push_size _ rfl))))
  · rw [← z2]; exact up (up (up (Heap.get?_push_size _ rfl)))
  · rw [Heap.size_push, z5]
theorem zipNew3 (st t1 t2 t3 : Bool) (l1 l2 l3 : Addr) (xs ys zs : Array Value) :
    Meets (Builtin.«zip.__new__» ⟨[.type "zip", .ref l1, .ref l2, .ref l3], kwS st⟩) (fun _ R s => SOb s.heap t1 l1 xs ∧ SOb s.heap t2 l2 ys ∧ SOb s.heap t3 l3 zs ∧
      ∀ h', ZipO h' (s.heap.objs.size + 5) (s.heap.objs.size + 3) (s.heap.objs.size + 4) .none st → TupO h' (s.heap.objs.size + 3) #[.ref s.heap.objs.size, .ref (s.heap.objs.size + 1), .ref (s.heap.objs.size + 2)] → TupO h' (s.heap.objs.size + 4) #[.none, .none, .none] →
        SIt h' t1 s.heap.objs.size l1 0 → SIt h' t2 (s.heap.objs.size + 1) l2 0 → SIt h' t3 (s.heap.objs.size + 2) l3 0 → h'.objs.size = s.heap.objs.size + 6 → (∀ b o, s.heap.get? b = some o → h'.get? b = some o) →
        R (.ok (.ret (.ref (s.heap.objs.size + 5)))) { s with heap := h' }) :=
  .of_wp fun prog w A R s h => by
    obtain ⟨hp, g, d, tk, os⟩ := s
    obtain ⟨a1, a2, a3, h⟩ := h
    have hsub := sub_zip
    have b1 : SOb (Shared.heap ⟨hp, g, d, tk, os⟩) t1 l1 xs := a1
    have b2 : SOb (Shared.heap ⟨hp.push { cls := .type (itCls t1), data := .fields #[.ref l1, .int 0 0] }, g, d, tk, os⟩) t2 l2 ys := SOb.push a2 _
    have b3 : SOb (Shared.heap ⟨(hp.push { cls := .type (itCls t1), data := .fields #[.ref l1, .int 0 0] }).push { cls := .type (itCls t2), data := .fields #[.ref l2, .int 0 0] }, g, d, tk, os⟩) t3 l3 zs := SOb.push (SOb.push a3 _) _
    cases st
    · show wpAny _ _ (Builtin.«zip.__new__» ⟨[.type "zip", .ref l1, .ref l2, .ref l3], []⟩) _ _ _
      wp_walk using iterS b1, iterS b2, iterS b3
      exact ⟨_, rfl, zipFin3 (R := fun v hh => R (.ok (.ret v)) ⟨hh, g, d, tk, os⟩) hp _ t1 t2 t3 l1 l2 l3 h⟩
    · show wpAny _ _ (Builtin.«zip.__new__» ⟨[.type "zip", .ref l1, .ref l2, .ref l3], [("strict", .bool true)]⟩) _ _ _
      wp_walk using iterS b1, iterS b2, iterS b3
      exact ⟨_, rfl, zipFin3 (R := fun v hh => R (.ok (.ret v)) ⟨hh, g, d, tk, os⟩) hp _ t1 t2 t3 l1 l2 l3 h⟩
end
end DL


set_option Elab.async false
set_option linter.all false
set_option maxRecDepth 100000
set_option maxHeartbeats 2000000
/-! DL6: one turn of zip. -/
namespace DL
open PySem PySem.Spec PyProof.Rows L2
open PySem.Builtin.SmallTypes (nextOf nextOrEnd)

/-- a zip of two, ahead of turn i: its records stand at n, n + 1, .. -/
structure Z2 (h : Heap) (n : Nat) (st t1 t2 : Bool) (l1 l2 : Nat) (i : Nat) : Prop where
  z : ZipO h (n + 4) (n + 2) (n + 3) .none st
  ti : TupO h (n + 2) #[.ref n, .ref (n + 1)]
  to : ∃ a b, TupO h (n + 3) #[a, b]
  i1 : SIt h t1 n l1 i
  i2 : SIt h t2 (n + 1) l2 i

/-- a zip of three -/
structure Z3 (h : Heap) (n : Nat) (st t1 t2 t3 : Bool) (l1 l2 l3 : Nat) (i : Nat) : Prop where
  z : ZipO h (n + 5) (n + 3) (n + 4) .none st
  ti : TupO h (n + 3) #[.ref n, .ref (n + 1), .ref (n + 2)]
  to : ∃ a b c, TupO h (n + 4) #[a, b, c]
  i1 : SIt h t1 n l1 i
  i2 : SIt h t2 (n + 1) l2 i
  i3 : SIt h t3 (n + 2) l3 i

section
variable {prog : Program} {w : World} {A : Around} {E : Value → Shared → Prop} {s : Shared} {n l1 l2 l3 : Nat} {st t1 t2 t3 : Bool} {i : Nat} {xs ys zs : Array Value}
theorem updTup {T : Addr} {us : Array Value} {x : Value} {k : Nat} {Q : Unit → Shared → Prop} (hT : TupO s.heap T us) (hz : us.size ≤ 8)
    (h : ∀ h', TupO h' T (us.setIfInBounds k x) → Heap.SameBut T s.heap h' → Q () { s with heap := h' }) : wpAny (model prog w) A (updateSeq T (·.setIfInBounds k x)) Q E s := by
  refine wpAny_updateSeq hT rfl (h _ ?_ (Heap.SameBut.update ..)) (by rw [sizeLine_eq]; omega) (by rw [Array.size_setIfInBounds, sizeLine_eq]; omega)
  rw [TupO, Heap.get?_update_self _ hT rfl]
  simp [Obj.mapSeq]
/-- one drawing, strict or not -/
theorem drawS {c : Bool} {α : Type} {t : Bool} {it l : Addr} {items : Array Value} {x : Value} {k : Option Value → Sem α} {Q : α → Shared → Prop} (hit : SIt s.heap t it l i) (hl : SOb s.heap t l items) (hx : items[i]? = some x)
    (hQ : ∀ h', SIt h' t it l (i + 1) → Heap.SameBut it s.heap h' → wpAny (model prog w) A (k (some x)) Q E { s with heap := h' }) (f : Value → Sem Unit) :
    wpAny (model prog w) A (((if c = true then nextOrEnd (.ref it) else (do return some (← nextOf (.ref it)))).onRaise f) >>= k) Q E s := by
  refine wpAny_bind (wpAny_onRaise ?_)
  cases c
  · exact wpAny_bind (nextS hit hl hx fun h' a b => wpAny_pure (hQ h' a b))
  · exact nextS' hit hl hx fun h' a b => hQ h' a b

theorem z2_item {x y : Value} {Q : Value → Shared → Prop} (D : Z2 s.heap n st t1 t2 l1 l2 i) (n1 : l1 < n) (n2 : l2 < n) (o1 : SOb s.heap t1 l1 xs) (o2 : SOb s.heap t2 l2 ys) (hx : xs[i]? = some x) (hy : ys[i]? = some y)
    (hQ : ∀ h', ZipO h' (n + 4) (n + 2) (n + 3) (rawInt s.heap.objs.size) st → TupO h' (n + 2) #[.ref n, .ref (n + 1)] → TupO h' (n + 3) #[x, y] → SIt h' t1 n l1 (i + 1) → SIt h' t2 (n + 1) l2 (i + 1) → TupO h' s.heap.objs.size #[x, y] →
      h'.objs.size = s.heap.objs.size + 1 → (∀ b o, b ∉ [n, n + 1, n + 2, n + 3, n + 4] → s.heap.get? b = some o → h'.get? b = some o) → Q (.ref s.heap.objs.size) { s with heap := h' }) :
    wpAny (model prog w) A (Builtin.«zip.__next__» ⟨[.ref (n + 4)], []⟩) (fun fin s' => ∃ v, fin = .done (.ret v) ∧ Q v s') E s := by
  obtain ⟨hz, hti, ⟨a, b, hto⟩, hi1, hi2⟩ := D
  refine (show wpAny _ _ (field (.ref (n + 4)) 2 >>= _) _ _ _ from wpAny_bind (wpAny_field hz rfl (x := .bool st) rfl ?_))
  refine (show wpAny _ _ (field (.ref (n + 4)) 3 >>= _) _ _ _ from wpAny_bind (wpAny_field hz rfl (x := .ref (n + 2)) rfl ?_))
  refine wpAny_bind (wpAny_seqItems hti rfl ?_)
  refine (show wpAny _ _ (Builtin.SmallTypes.ownedTupleIsFree (.ref (n + 4)) >>= _) _ _ _ from wpAny_bind ?_)
  unfold Builtin.SmallTypes.ownedTupleIsFree
  refine wpAny_bind (wpAny_field hz rfl (x := .none) rfl (wpAny_pure ?_))
  simp only [if_true]
  refine wpAny_bind (wpAny_rule ?_)
  refine wpAny_bind (wpAny_field hz rfl (x := .ref (n + 3)) rfl ?_)
  refine wpAny_bind (wpAny_setField_rec hz (by simp) fun h1 hz1 s1 => ?_)
  replace hz1 : ZipO h1 (n + 4) (n + 2) (n + 3) .ellipsis st := hz1
  refine wpAny_bind ?_
  simp only [List.zipIdx_cons, List.zipIdx_nil, List.forIn_cons, List.forIn_nil]
  have k1 : ∀ (c : Nat) o, c ≠ (n + 4) → s.heap.get? c = some o → h1.get? c = some o := fun c o q e => s1.extBut c o q e
  have kk1 : ∀ (c : Nat) o, c ≠ (n + 4) → s.heap.get? c = some o → h1.get? c = some o := k1
  have a0 : SIt h1 t1 n l1 i := hi1.at fun o q => k1 n o (by omega) q
  have b0 : SOb h1 t1 l1 xs := o1.at fun o q => k1 l1 o (by omega) q
  refine wpAny_bind (drawS (s := { s with heap := h1 }) (c := Value.bool st == Value.bool true) a0 b0 hx (fun h2 g0 s2 => ?_) _)
  have to0 : TupO h2 (n + 3) #[a, b] := s2.extBut (n + 3) _ (show (n + 3) ≠ n by omega) (k1 (n + 3) _ (by omega) hto)
  refine wpAny_bind (wpAny_seqItems to0 rfl (wpAny_bind (updTup to0 (Nat.le_of_ble_eq_true rfl) fun h3 tn0 s3 => wpAny_bind (wpAny_letGo (wpAny_pure ?_)))))
  replace tn0 : TupO h3 (n + 3) #[x, b] := tn0
  have k3 : ∀ (c : Nat) o, c ≠ (n + 4) → c ≠ (n + 3) → c ≠ n → s.heap.get? c = some o → h3.get? c = some o := fun c o q0 q1 q2 e => s3.extBut c o q1 (s2.extBut c o q2 (k1 c o q0 e))
  have a1 : SIt h3 t2 (n + 1) l2 i := hi2.at fun o q => k3 (n + 1) o (by omega) (by omega) (by omega) q
  have b1 : SOb h3 t2 l2 ys := o2.at fun o q => k3 l2 o (by omega) (by omega) (by omega) q
  refine wpAny_bind (drawS (s := { s with heap := h3 }) (c := Value.bool st == Value.bool true) a1 b1 hy (fun h4 g1 s4 => ?_) _)
  have to1 : TupO h4 (n + 3) #[x, b] := s4.extBut (n + 3) _ (show (n + 3) ≠ (n + 1) by omega) tn0
  refine wpAny_bind (wpAny_seqItems to1 rfl (wpAny_bind (updTup to1 (Nat.le_of_ble_eq_true rfl) fun h5 tn1 s5 => wpAny_bind (wpAny_letGo (wpAny_pure (wpAny_pure ?_))))))
  replace tn1 : TupO h5 (n + 3) #[x, y] := tn1
  have k5 : ∀ (c : Nat) o, c ≠ (n + 4) → c ≠ (n + 3) → c ≠ n → c ≠ (n + 1) → s.heap.get? c = some o → h5.get? c = some o := fun c o q0 q1 q2 q3 e => s5.extBut c o q1 (s4.extBut c o q3 (k3 c o q0 q1 q2 e))
  have z5 : ZipO h5 (n + 4) (n + 2) (n + 3) .ellipsis st := s5.extBut (n + 4) _ (show (n + 4) ≠ (n + 3) by omega) (s4.extBut (n + 4) _ (show (n + 4) ≠ (n + 1) by omega) (s3.extBut (n + 4) _ (show (n + 4) ≠ (n + 3) by omega) (s2.extBut (n + 4) _ (show (n + 4) ≠ n by omega) (hz1))))
  have j1 : SIt h5 t1 n l1 (i + 1) := g0.at fun o q => s5.extBut n _ (show n ≠ (n + 3) by omega) (s4.extBut n _ (show n ≠ (n + 1) by omega) (s3.extBut n _ (show n ≠ (n + 3) by omega) (q)))
  have j2 : SIt h5 t2 (n + 1) l2 (i + 1) := g1.at fun o q => s5.extBut (n + 1) _ (show (n + 1) ≠ (n + 3) by omega) (q)
  have hsz : h5.objs.size = s.heap.objs.size := by rw [s5.1, s4.1, s3.1, s2.1, s1.1]
  refine wpAny_bind (wpAny_seqItems tn1 rfl (wpAny_bind (wpAny_newTuple ?_)))
  refine (show wpAny _ _ (Builtin.SmallTypes.ownedTupleHandOut (.ref (n + 4)) (.ref h5.objs.size) >>= _) _ _ _ from wpAny_bind ?_)
  unfold Builtin.SmallTypes.ownedTupleHandOut
  have up : ∀ {c : Addr} {u : Obj}, h5.get? c = some u → (h5.push (tuO #[x, y])).get? c = some u := fun q => Heap.get?_push_of_some _ q
  have z6 : ZipO (h5.push (tuO #[x, y])) (n + 4) (n + 2) (n + 3) .ellipsis st := up z5
  refine wpAny_bind (wpAny_setField_rec z6 (by simp) fun hA zA sA => ?_)
  replace zA : ZipO hA (n + 4) (n + 2) (n + 3) (rawInt h5.objs.size) st := zA
  refine wpAny_setField_rec zA (by simp) fun hB zB sB => ?_
  replace zB : ZipO hB (n + 4) (n + 2) (n + 3) (rawInt h5.objs.size) st := zB
  have k8 : ∀ (c : Nat) o, c ≠ (n + 4) → h5.get? c = some o → hB.get? c = some o := fun c o q e => sB.extBut c o q (sA.extBut c o q (up e))
  have hzl : (n + 4) < h5.objs.size := Heap.lt_size z5
  have T8 : TupO hB h5.objs.size #[x, y] := sB.extBut _ _ (Nat.ne_of_gt hzl) (sA.extBut _ _ (Nat.ne_of_gt hzl) (Heap.get?_push_size _ rfl))
  have sz8 : hB.objs.size = h5.objs.size + 1 := by rw [sB.1, sA.1, Heap.size_push]
  refine wpAny_pure ⟨_, rfl, ?_⟩
  rw [hsz] at zB T8 sz8
  rw [hsz]
  exact hQ hB zB (k8 (n + 2) _ (by omega) (k5 (n + 2) _ (by omega) (by omega) (by omega) (by omega) hti)) (k8 (n + 3) _ (by omega) tn1) (j1.at fun o q => k8 n o (by omega) q) (j2.at fun o q => k8 (n + 1) o (by omega) q) T8 sz8
    fun c o hc e => by
      simp only [List.mem_cons, List.mem_nil_iff, or_false, not_or] at hc
      exact k8 c o hc.2.2.2.2 (k5 c o hc.2.2.2.2 hc.2.2.2.1 hc.1 hc.2.1 e)
theorem z3_item {x y v : Value} {Q : Value → Shared → Prop} (D : Z3 s.heap n st t1 t2 t3 l1 l2 l3 i) (n1 : l1 < n) (n2 : l2 < n) (n3 : l3 < n) (o1 : SOb s.heap t1 l1 xs) (o2 : SOb s.heap t2 l2 ys) (o3 : SOb s.heap t3 l3 zs) (hx : xs[i]? = some x) (hy : ys[i]? = some y) (hv : zs[i]? = some v)
    (hQ : ∀ h', ZipO h' (n + 5) (n + 3) (n + 4) (rawInt s.heap.objs.size) st → TupO h' (n + 3) #[.ref n, .ref (n + 1), .ref (n + 2)] → TupO h' (n + 4) #[x, y, v] → SIt h' t1 n l1 (i + 1) → SIt h' t2 (n + 1) l2 (i + 1) → SIt h' t3 (n + 2) l3 (i + 1) → TupO h' s.heap.objs.size #[x, y, v] →
      h'.objs.size = s.heap.objs.size + 1 → (∀ b o, b ∉ [n, n + 1, n + 2, n + 3, n + 4, n + 5] → s.heap.get? b = some o → h'.get? b = some o) → Q (.ref s.heap.objs.size) { s with heap := h' }) :
    wpAny (model prog w) A (Builtin.«zip.__next__» ⟨[.ref (n + 5)], []⟩) (fun fin s' => ∃ v, fin = .done (.ret v) ∧ Q v s') E s := by
  obtain ⟨hz, hti, ⟨a, b, c, hto⟩, hi1, hi2, hi3⟩ := D
  refine (show wpAny _ _ (field (.ref (n + 5)) 2 >>= _) _ _ _ from wpAny_bind (wpAny_field hz rfl (x := .bool st) rfl ?_))
  refine (show wpAny _ _ (field (.ref (n + 5)) 3 >>= _) _ _ _ from wpAny_bind (wpAny_field hz rfl (x := .ref (n + 3)) rfl ?_))
  refine wpAny_bind (wpAny_seqItems hti rfl ?_)
  refine (show wpAny _ _ (Builtin.SmallTypes.ownedTupleIsFree (.ref (n + 5)) >>= _) _ _ _ from wpAny_bind ?_)
  unfold Builtin.SmallTypes.ownedTupleIsFree
  refine wpAny_bind (wpAny_field hz rfl (x := .none) rfl (wpAny_pure ?_))
  simp only [if_true]
  refine wpAny_bind (wpAny_rule ?_)
  refine wpAny_bind (wpAny_field hz rfl (x := .ref (n + 4)) rfl ?_)
  refine wpAny_bind (wpAny_setField_rec hz (by simp) fun h1 hz1 s1 => ?_)
  replace hz1 : ZipO h1 (n + 5) (n + 3) (n + 4) .ellipsis st := hz1
  refine wpAny_bind ?_
  simp only [List.zipIdx_cons, List.zipIdx_nil, List.forIn_cons, List.forIn_nil]
  have k1 : ∀ (c : Nat) o, c ≠ (n + 5) → s.heap.get? c = some o → h1.get? c = some o := fun c o q e => s1.extBut c o q e
  have kk1 : ∀ (c : Nat) o, c ≠ (n + 5) → s.heap.get? c = some o → h1.get? c = some o := k1
  have a0 : SIt h1 t1 n l1 i := hi1.at fun o q => k1 n o (by omega) q
  have b0 : SOb h1 t1 l1 xs := o1.at fun o q => k1 l1 o (by omega) q
  refine wpAny_bind (drawS (s := { s with heap := h1 }) (c := Value.bool st == Value.bool true) a0 b0 hx (fun h2 g0 s2 => ?_) _)
  have to0 : TupO h2 (n + 4) #[a, b, c] := s2.extBut (n + 4) _ (show (n + 4) ≠ n by omega) (k1 (n + 4) _ (by omega) hto)
  refine wpAny_bind (wpAny_seqItems to0 rfl (wpAny_bind (updTup to0 (Nat.le_of_ble_eq_true rfl) fun h3 tn0 s3 => wpAny_bind (wpAny_letGo (wpAny_pure ?_)))))
  replace tn0 : TupO h3 (n + 4) #[x, b, c] := tn0
  have k3 : ∀ (c : Nat) o, c ≠ (n + 5) → c ≠ (n + 4) → c ≠ n → s.heap.get? c = some o → h3.get? c = some o := fun c o q0 q1 q2 e => s3.extBut c o q1 (s2.extBut c o q2 (k1 c o q0 e))
  have a1 : SIt h3 t2 (n + 1) l2 i := hi2.at fun o q => k3 (n + 1) o (by omega) (by omega) (by omega) q
  have b1 : SOb h3 t2 l2 ys := o2.at fun o q => k3 l2 o (by omega) (by omega) (by omega) q
  refine wpAny_bind (drawS (s := { s with heap := h3 }) (c := Value.bool st == Value.bool true) a1 b1 hy (fun h4 g1 s4 => ?_) _)
  have to1 : TupO h4 (n + 4) #[x, b, c] := s4.extBut (n + 4) _ (show (n + 4) ≠ (n + 1) by omega) tn0
  refine wpAny_bind (wpAny_seqItems to1 rfl (wpAny_bind (updTup to1 (Nat.le_of_ble_eq_true rfl) fun h5 tn1 s5 => wpAny_bind (wpAny_letGo (wpAny_pure ?_)))))
  replace tn1 : TupO h5 (n + 4) #[x, y, c] := tn1
  have k5 : ∀ (c : Nat) o, c ≠ (n + 5) → c ≠ (n + 4) → c ≠ n → c ≠ (n + 1) → s.heap.get? c = some o → h5.get? c = some o := fun c o q0 q1 q2 q3 e => s5.extBut c o q1 (s4.extBut c o q3 (k3 c o q0 q1 q2 e))
  have a2 : SIt h5 t3 (n + 2) l3 i := hi3.at fun o q => k5 (n + 2) o (by omega) (by omega) (by omega) (by omega) q
  have b2 : SOb h5 t3 l3 zs := o3.at fun o q => k5 l3 o (by omega) (by omega) (by omega) (by omega) q
  refine wpAny_bind (drawS (s := { s with heap := h5 }) (c := Value.bool st == Value.bool true) a2 b2 hv (fun h6 g2 s6 => ?_) _)
  have to2 : TupO h6 (n + 4) #[x, y, c] := s6.extBut (n + 4) _ (show (n + 4) ≠ (n + 2) by omega) tn1
  refine wpAny_bind (wpAny_seqItems to2 rfl (wpAny_bind (updTup to2 (Nat.le_of_ble_eq_true rfl) fun h7 tn2 s7 => wpAny_bind (wpAny_letGo (wpAny_pure (wpAny_pure ?_))))))
  replace tn2 : TupO h7 (n + 4) #[x, y, v] := tn2
  have k7 : ∀ (c : Nat) o, c ≠ (n + 5) → c ≠ (n + 4) → c ≠ n → c ≠ (n + 1) → c ≠ (n + 2) → s.heap.get? c = some o → h7.get? c = some o := fun c o q0 q1 q2 q3 q4 e => s7.extBut c o q1 (s6.extBut c o q4 (k5 c o q0 q1 q2 q3 e))
  have z5 : ZipO h7 (n + 5) (n + 3) (n + 4) .ellipsis st := s7.extBut (n + 5) _ (show (n + 5) ≠ (n + 4) by omega) (s6.extBut (n + 5) _ (show (n + 5) ≠ (n + 2) by omega) (s5.extBut (n + 5) _ (show (n + 5) ≠ (n + 4) by omega) (s4.extBut (n + 5) _ (show (n + 5) ≠ (n + 1) by omega) (s3.extBut (n + 5) _ (show (n + 5) ≠ (n + 4) by omega) (s2.extBut (n + 5) _ (show (n + 5) ≠ n by omega) (hz1))))))
  have j1 : SIt h7 t1 n l1 (i + 1) := g0.at fun o q => s7.extBut n _ (show n ≠ (n + 4) by omega) (s6.extBut n _ (show n ≠ (n + 2) by omega) (s5.extBut n _ (show n ≠ (n + 4) by omega) (s4.extBut n _ (show n ≠ (n + 1) by omega) (s3.extBut n _ (show n ≠ (n + 4) by omega) (q)))))
  have j2 : SIt h7 t2 (n + 1) l2 (i + 1) := g1.at fun o q => s7.extBut (n + 1) _ (show (n + 1) ≠ (n + 4) by omega) (s6.extBut (n + 1) _ (show (n + 1) ≠ (n + 2) by omega) (s5.extBut (n + 1) _ (show (n + 1) ≠ (n + 4) by omega) (q)))
  have j3 : SIt h7 t3 (n + 2) l3 (i + 1) := g2.at fun o q => s7.extBut (n + 2) _ (show (n + 2) ≠ (n + 4) by omega) (q)
  have hsz : h7.objs.size = s.heap.objs.size := by rw [s7.1, s6.1, s5.1, s4.1, s3.1, s2.1, s1.1]
  refine wpAny_bind (wpAny_seqItems tn2 rfl (wpAny_bind (wpAny_newTuple ?_)))
  refine (show wpAny _ _ (Builtin.SmallTypes.ownedTupleHandOut (.ref (n + 5)) (.ref h7.objs.size) >>= _) _ _ _ from wpAny_bind ?_)
  unfold Builtin.SmallTypes.ownedTupleHandOut
  have up : ∀ {c : Addr} {u : Obj}, h7.get? c = some u → (h7.push (tuO #[x, y, v])).get? c = some u := fun q => Heap.get?_push_of_some _ q
  have z6 : ZipO (h7.push (tuO #[x, y, v])) (n + 5) (n + 3) (n + 4) .ellipsis st := up z5
  refine wpAny_bind (wpAny_setField_rec z6 (by simp) fun hA zA sA => ?_)
  replace zA : ZipO hA (n + 5) (n + 3) (n + 4) (rawInt h7.objs.size) st := zA
  refine wpAny_setField_rec zA (by simp) fun hB zB sB => ?_
  replace zB : ZipO hB (n + 5) (n + 3) (n + 4) (rawInt h7.objs.size) st := zB
  have k8 : ∀ (c : Nat) o, c ≠ (n + 5) → h7.get? c = some o → hB.get? c = some o := fun c o q e => sB.extBut c o q (sA.extBut c o q (up e))
  have hzl : (n + 5) < h7.objs.size := Heap.lt_size z5
  have T8 : TupO hB h7.objs.size #[x, y, v] := sB.extBut _ _ (Nat.ne_of_gt hzl) (sA.extBut _ _ (Nat.ne_of_gt hzl) (Heap.get?_push_size _ rfl))
  have sz8 : hB.objs.size = h7.objs.size + 1 := by rw [sB.1, sA.1, Heap.size_push]
  refine wpAny_pure ⟨_, rfl, ?_⟩
  rw [hsz] at zB T8 sz8
  rw [hsz]
  exact hQ hB zB (k8 (n + 3) _ (by omega) (k7 (n + 3) _ (by omega) (by omega) (by omega) (by omega) (by omega) hti)) (k8 (n + 4) _ (by omega) tn2) (j1.at fun o q => k8 n o (by omega) q) (j2.at fun o q => k8 (n + 1) o (by omega) q) (j3.at fun o q => k8 (n + 2) o (by omega) q) T8 sz8
    fun c o hc e => by
      simp only [List.mem_cons, List.mem_nil_iff, or_false, not_or] at hc
      exact k8 c o hc.2.2.2.2.2 (k7 c o hc.2.2.2.2.2 hc.2.2.2.2.1 hc.1 hc.2.1 hc.2.2.1 e)
end
end DL


set_option Elab.async false
set_option linter.all false
set_option maxRecDepth 100000
set_option maxHeartbeats 2000000
/-! DL7: the end of zip. -/
namespace DL
open PySem PySem.Spec PyProof.Rows L2
open PySem.Builtin.SmallTypes (nextOf nextOrEnd)
section
variable {prog : Program} {w : World} {A : Around} {E : Value → Shared → Prop} {s : Shared} {n l1 l2 l3 : Nat} {st t1 t2 t3 : Bool} {i : Nat} {xs ys zs : Array Value}
theorem z2_endF0 {Q : Fin → Shared → Prop} (hh : A.handled = none) (D : Z2 s.heap n false t1 t2 l1 l2 i) (n1 : l1 < n) (n2 : l2 < n) (o1 : SOb s.heap t1 l1 xs) (o2 : SOb s.heap t2 l2 ys)  (hend : xs[i]? = none)
    (hE : ∀ h' e, (∀ b o, b ∉ [n, n + 1, n + 2, n + 3, n + 4] → s.heap.get? b = some o → h'.get? b = some o) → (∃ o, h'.get? e = some o ∧ o.cls = .type "StopIteration") → E (.ref e) { s with heap := h' }) :
    wpAny (model prog w) A (Builtin.«zip.__next__» ⟨[.ref (n + 4)], []⟩) Q E s := by
  obtain ⟨hz, hti, ⟨a, b, hto⟩, hi1, hi2⟩ := D
  refine (show wpAny _ _ (field (.ref (n + 4)) 2 >>= _) _ _ _ from wpAny_bind (wpAny_field hz rfl (x := .bool false) rfl ?_))
  refine (show wpAny _ _ (field (.ref (n + 4)) 3 >>= _) _ _ _ from wpAny_bind (wpAny_field hz rfl (x := .ref (n + 2)) rfl ?_))
  refine wpAny_bind (wpAny_seqItems hti rfl ?_)
  refine (show wpAny _ _ (Builtin.SmallTypes.ownedTupleIsFree (.ref (n + 4)) >>= _) _ _ _ from wpAny_bind ?_)
  unfold Builtin.SmallTypes.ownedTupleIsFree
  refine wpAny_bind (wpAny_field hz rfl (x := .none) rfl (wpAny_pure ?_))
  simp only [if_true]
  refine wpAny_bind (wpAny_rule ?_)
  refine wpAny_bind (wpAny_field hz rfl (x := .ref (n + 3)) rfl ?_)
  refine wpAny_bind (wpAny_setField_rec hz (by simp) fun h1 hz1 s1 => ?_)
  replace hz1 : ZipO h1 (n + 4) (n + 2) (n + 3) .ellipsis false := hz1
  refine wpAny_bind ?_
  simp only [List.zipIdx_cons, List.zipIdx_nil, List.forIn_cons, List.forIn_nil]
  have k1 : ∀ (c : Nat) o, c ≠ (n + 4) → s.heap.get? c = some o → h1.get? c = some o := fun c o q e => s1.extBut c o q e
  have a0 : SIt h1 t1 n l1 i := hi1.at fun o q => k1 n o (by omega) q
  have b0 : SOb h1 t1 l1 xs := o1.at fun o q => k1 l1 o (by omega) q
  have zz : ZipO h1 (n + 4) (n + 2) (n + 3) .ellipsis false := hz1
  refine wpAny_bind (wpAny_bind (wpAny_onRaise (show wpAny _ _ (nextOf (.ref n) >>= _) _ _ _ from wpAny_bind (nextE (s := { s with heap := h1 }) hh a0 b0 hend fun hA e sA he => ?_))))
  obtain ⟨oe, hoe, hce⟩ := he
  have zA : ZipO hA (n + 4) (n + 2) (n + 3) .ellipsis false := sA (n + 4) _ (show (n + 4) ≠ n by omega) zz
  have hez : e ≠ (n + 4) := fun q => by subst q; rw [ZipO, hoe] at zA; cases zA; simp at hce
  refine wpAny_setField_rec zA (by simp) fun hB _ sB => hE hB e (fun c o hc q => ?_) ⟨oe, sB.extBut _ _ hez hoe, hce⟩
  simp only [List.mem_cons, List.mem_nil_iff, or_false, not_or] at hc
  exact sB.extBut c o hc.2.2.2.2 (sA c o hc.1 (k1 c o hc.2.2.2.2 q))
theorem z2_endF1 {x : Value} {Q : Fin → Shared → Prop} (hh : A.handled = none) (D : Z2 s.heap n false t1 t2 l1 l2 i) (n1 : l1 < n) (n2 : l2 < n) (o1 : SOb s.heap t1 l1 xs) (o2 : SOb s.heap t2 l2 ys) (hx : xs[i]? = some x) (hend : ys[i]? = none)
    (hE : ∀ h' e, (∀ b o, b ∉ [n, n + 1, n + 2, n + 3, n + 4] → s.heap.get? b = some o → h'.get? b = some o) → (∃ o, h'.get? e = some o ∧ o.cls = .type "StopIteration") → E (.ref e) { s with heap := h' }) :
    wpAny (model prog w) A (Builtin.«zip.__next__» ⟨[.ref (n + 4)], []⟩) Q E s := by
  obtain ⟨hz, hti, ⟨a, b, hto⟩, hi1, hi2⟩ := D
  refine (show wpAny _ _ (field (.ref (n + 4)) 2 >>= _) _ _ _ from wpAny_bind (wpAny_field hz rfl (x := .bool false) rfl ?_))
  refine (show wpAny _ _ (field (.ref (n + 4)) 3 >>= _) _ _ _ from wpAny_bind (wpAny_field hz rfl (x := .ref (n + 2)) rfl ?_))
  refine wpAny_bind (wpAny_seqItems hti rfl ?_)
  refine (show wpAny _ _ (Builtin.SmallTypes.ownedTupleIsFree (.ref (n + 4)) >>= _) _ _ _ from wpAny_bind ?_)
  unfold Builtin.SmallTypes.ownedTupleIsFree
  refine wpAny_bind (wpAny_field hz rfl (x := .none) rfl (wpAny_pure ?_))
  simp only [if_true]
  refine wpAny_bind (wpAny_rule ?_)
  refine wpAny_bind (wpAny_field hz rfl (x := .ref (n + 3)) rfl ?_)
  refine wpAny_bind (wpAny_setField_rec hz (by simp) fun h1 hz1 s1 => ?_)
  replace hz1 : ZipO h1 (n + 4) (n + 2) (n + 3) .ellipsis false := hz1
  refine wpAny_bind ?_
  simp only [List.zipIdx_cons, List.zipIdx_nil, List.forIn_cons, List.forIn_nil]
  have k1 : ∀ (c : Nat) o, c ≠ (n + 4) → s.heap.get? c = some o → h1.get? c = some o := fun c o q e => s1.extBut c o q e
  have a0 : SIt h1 t1 n l1 i := hi1.at fun o q => k1 n o (by omega) q
  have b0 : SOb h1 t1 l1 xs := o1.at fun o q => k1 l1 o (by omega) q
  refine wpAny_bind (drawS (s := { s with heap := h1 }) (c := Value.bool false == Value.bool true) a0 b0 hx (fun h2 g0 s2 => ?_) _)
  have to0 : TupO h2 (n + 3) #[a, b] := s2.extBut (n + 3) _ (show (n + 3) ≠ n by omega) (k1 (n + 3) _ (by omega) hto)
  refine wpAny_bind (wpAny_seqItems to0 rfl (wpAny_bind (updTup to0 (Nat.le_of_ble_eq_true rfl) fun h3 tn0 s3 => wpAny_bind (wpAny_letGo (wpAny_pure ?_)))))
  replace tn0 : TupO h3 (n + 3) #[x, b] := tn0
  have k3 : ∀ (c : Nat) o, c ≠ (n + 4) → c ≠ (n + 3) → c ≠ n → s.heap.get? c = some o → h3.get? c = some o := fun c o q0 q1 q2 e => s3.extBut c o q1 (s2.extBut c o q2 (k1 c o q0 e))
  have a1 : SIt h3 t2 (n + 1) l2 i := hi2.at fun o q => k3 (n + 1) o (by omega) (by omega) (by omega) q
  have b1 : SOb h3 t2 l2 ys := o2.at fun o q => k3 l2 o (by omega) (by omega) (by omega) q
  have zz : ZipO h3 (n + 4) (n + 2) (n + 3) .ellipsis false := s3.extBut (n + 4) _ (show (n + 4) ≠ (n + 3) by omega) (s2.extBut (n + 4) _ (show (n + 4) ≠ n by omega) (hz1))
  refine wpAny_bind (wpAny_bind (wpAny_onRaise (show wpAny _ _ (nextOf (.ref (n + 1)) >>= _) _ _ _ from wpAny_bind (nextE (s := { s with heap := h3 }) hh a1 b1 hend fun hA e sA he => ?_))))
  obtain ⟨oe, hoe, hce⟩ := he
  have zA : ZipO hA (n + 4) (n + 2) (n + 3) .ellipsis false := sA (n + 4) _ (show (n + 4) ≠ (n + 1) by omega) zz
  have hez : e ≠ (n + 4) := fun q => by subst q; rw [ZipO, hoe] at zA; cases zA; simp at hce
  refine wpAny_setField_rec zA (by simp) fun hB _ sB => hE hB e (fun c o hc q => ?_) ⟨oe, sB.extBut _ _ hez hoe, hce⟩
  simp only [List.mem_cons, List.mem_nil_iff, or_false, not_or] at hc
  exact sB.extBut c o hc.2.2.2.2 (sA c o hc.2.1 (k3 c o hc.2.2.2.2 hc.2.2.2.1 hc.1 q))
theorem z2_endT {Q : Fin → Shared → Prop} (hh : A.handled = none) (D : Z2 s.heap n true t1 t2 l1 l2 i) (n1 : l1 < n) (n2 : l2 < n) (o1 : SOb s.heap t1 l1 xs) (o2 : SOb s.heap t2 l2 ys) (e1 : xs[i]? = none) (e2 : ys[i]? = none)
    (hE : ∀ h' e, (∀ b o, b ∉ [n, n + 1, n + 2, n + 3, n + 4] → s.heap.get? b = some o → h'.get? b = some o) → (∃ o, h'.get? e = some o ∧ o.cls = .type "StopIteration") → E (.ref e) { s with heap := h' }) :
    wpAny (model prog w) A (Builtin.«zip.__next__» ⟨[.ref (n + 4)], []⟩) Q E s := by
  obtain ⟨hz, hti, ⟨a, b, hto⟩, hi1, hi2⟩ := D
  refine (show wpAny _ _ (field (.ref (n + 4)) 2 >>= _) _ _ _ from wpAny_bind (wpAny_field hz rfl (x := .bool true) rfl ?_))
  refine (show wpAny _ _ (field (.ref (n + 4)) 3 >>= _) _ _ _ from wpAny_bind (wpAny_field hz rfl (x := .ref (n + 2)) rfl ?_))
  refine wpAny_bind (wpAny_seqItems hti rfl ?_)
  refine (show wpAny _ _ (Builtin.SmallTypes.ownedTupleIsFree (.ref (n + 4)) >>= _) _ _ _ from wpAny_bind ?_)
  unfold Builtin.SmallTypes.ownedTupleIsFree
  refine wpAny_bind (wpAny_field hz rfl (x := .none) rfl (wpAny_pure ?_))
  simp only [if_true]
  refine wpAny_bind (wpAny_rule ?_)
  refine wpAny_bind (wpAny_field hz rfl (x := .ref (n + 3)) rfl ?_)
  refine wpAny_bind (wpAny_setField_rec hz (by simp) fun h1 hz1 s1 => ?_)
  replace hz1 : ZipO h1 (n + 4) (n + 2) (n + 3) .ellipsis true := hz1
  refine wpAny_bind ?_
  simp only [List.zipIdx_cons, List.zipIdx_nil, List.forIn_cons, List.forIn_nil]
  have k1 : ∀ (c : Nat) o, c ≠ (n + 4) → s.heap.get? c = some o → h1.get? c = some o := fun c o q e => s1.extBut c o q e
  have a0 : SIt h1 t1 n l1 i := hi1.at fun o q => k1 n o (by omega) q
  have b0 : SOb h1 t1 l1 xs := o1.at fun o q => k1 l1 o (by omega) q
  refine wpAny_bind (wpAny_bind (wpAny_onRaise (show wpAny _ _ (nextOrEnd (.ref n)) _ _ _ from nextE' (s := { s with heap := h1 }) hh a0 b0 e1 fun h2 s2 => ?_)))
  have z2 : ZipO h2 (n + 4) (n + 2) (n + 3) .ellipsis true := s2 (n + 4) _ (show (n + 4) ≠ n by omega) hz1
  refine wpAny_bind (wpAny_setField_rec z2 (by simp) fun h3 z3 s3 => wpAny_bind ?_)
  have k3 : ∀ (c : Nat) o, c ≠ (n + 4) → c ≠ n → s.heap.get? c = some o → h3.get? c = some o := fun c o q0 q1 e => s3.extBut c o q0 (s2 c o q1 (k1 c o q0 e))
  refine wpAny_bind ?_
  simp only [List.drop_succ_cons, List.drop_zero, List.zipIdx_cons, List.zipIdx_nil, List.forIn_cons, List.forIn_nil]
  have a1 : SIt h3 t2 (n + 1) l2 i := hi2.at fun o q => k3 (n + 1) o (by omega) (by omega) q
  have b1 : SOb h3 t2 l2 ys := o2.at fun o q => k3 l2 o (by omega) (by omega) q
  refine wpAny_bind (show wpAny _ _ (nextOrEnd (.ref (n + 1)) >>= _) _ _ _ from wpAny_bind (nextE' (s := { s with heap := h3 }) hh a1 b1 e2 fun h4 s4 => ?_))
  simp only [Option.isSome_none, Bool.false_eq_true, if_false]
  refine wpAny_pure ?_
  have k4 : ∀ (c : Nat) o, c ≠ (n + 4) → c ≠ n → c ≠ (n + 1) → s.heap.get? c = some o → h4.get? c = some o := fun c o q0 q1 q2 e => s4 c o q2 (k3 c o q0 q1 e)
  refine wpAny_pure (wpAny_bind (wpAny_rule (stopS hh fun hB e sB he => hE hB e (fun c o hc q => ?_) he)))
  simp only [List.mem_cons, List.mem_nil_iff, or_false, not_or] at hc
  exact sB c o (k4 c o hc.2.2.2.2 hc.1 hc.2.1 q)
theorem z3_endF0 {Q : Fin → Shared → Prop} (hh : A.handled = none) (D : Z3 s.heap n false t1 t2 t3 l1 l2 l3 i) (n1 : l1 < n) (n2 : l2 < n) (n3 : l3 < n) (o1 : SOb s.heap t1 l1 xs) (o2 : SOb s.heap t2 l2 ys) (o3 : SOb s.heap t3 l3 zs)  (hend : xs[i]? = none)
    (hE : ∀ h' e, (∀ b o, b ∉ [n, n + 1, n + 2, n + 3, n + 4, n + 5] → s.heap.get? b = some o → h'.get? b = some o) → (∃ o, h'.get? e = some o ∧ o.cls = .type "StopIteration") → E (.ref e) { s with heap := h' }) :
    wpAny (model prog w) A (Builtin.«zip.__next__» ⟨[.ref (n + 5)], []⟩) Q E s := by
  obtain ⟨hz, hti, ⟨a, b, c, hto⟩, hi1, hi2, hi3⟩ := D
  refine (show wpAny _ _ (field (.ref (n + 5)) 2 >>= _) _ _ _ from wpAny_bind (wpAny_field hz rfl (x := .bool false) rfl ?_))
  refine (show wpAny _ _ (field (.ref (n + 5)) 3 >>= _) _ _ _ from wpAny_bind (wpAny_field hz rfl (x := .ref (n + 3)) rfl ?_))
  refine wpAny_bind (wpAny_seqItems hti rfl ?_)
  refine (show wpAny _ _ (Builtin.SmallTypes.ownedTupleIsFree (.ref (n + 5)) >>= _) _ _ _ from wpAny_bind ?_)
  unfold Builtin.SmallTypes.ownedTupleIsFree
  refine wpAny_bind (wpAny_field hz rfl (x := .none) rfl (wpAny_pure ?_))
  simp only [if_true]
  refine wpAny_bind (wpAny_rule ?_)
  refine wpAny_bind (wpAny_field hz rfl (x := .ref (n + 4)) rfl ?_)
  refine wpAny_bind (wpAny_setField_rec hz (by simp) fun h1 hz1 s1 => ?_)
  replace hz1 : ZipO h1 (n + 5) (n + 3) (n + 4) .ellipsis false := hz1
  refine wpAny_bind ?_
  simp only [List.zipIdx_cons, List.zipIdx_nil, List.forIn_cons, List.forIn_nil]
  have k1 : ∀ (c : Nat) o, c ≠ (n + 5) → s.heap.get? c = some o → h1.get? c = some o := fun c o q e => s1.extBut c o q e
  have a0 : SIt h1 t1 n l1 i := hi1.at fun o q => k1 n o (by omega) q
  have b0 : SOb h1 t1 l1 xs := o1.at fun o q => k1 l1 o (by omega) q
  have zz : ZipO h1 (n + 5) (n + 3) (n + 4) .ellipsis false := hz1
  refine wpAny_bind (wpAny_bind (wpAny_onRaise (show wpAny _ _ (nextOf (.ref n) >>= _) _ _ _ from wpAny_bind (nextE (s := { s with heap := h1 }) hh a0 b0 hend fun hA e sA he => ?_))))
  obtain ⟨oe, hoe, hce⟩ := he
  have zA : ZipO hA (n + 5) (n + 3) (n + 4) .ellipsis false := sA (n + 5) _ (show (n + 5) ≠ n by omega) zz
  have hez : e ≠ (n + 5) := fun q => by subst q; rw [ZipO, hoe] at zA; cases zA; simp at hce
  refine wpAny_setField_rec zA (by simp) fun hB _ sB => hE hB e (fun c o hc q => ?_) ⟨oe, sB.extBut _ _ hez hoe, hce⟩
  simp only [List.mem_cons, List.mem_nil_iff, or_false, not_or] at hc
  exact sB.extBut c o hc.2.2.2.2.2 (sA c o hc.1 (k1 c o hc.2.2.2.2.2 q))
theorem z3_endF1 {x : Value} {Q : Fin → Shared → Prop} (hh : A.handled = none) (D : Z3 s.heap n false t1 t2 t3 l1 l2 l3 i) (n1 : l1 < n) (n2 : l2 < n) (n3 : l3 < n) (o1 : SOb s.heap t1 l1 xs) (o2 : SOb s.heap t2 l2 ys) (o3 : SOb s.heap t3 l3 zs) (hx : xs[i]? = some x) (hend : ys[i]? = none)
    (hE : ∀ h' e, (∀ b o, b ∉ [n, n + 1, n + 2, n + 3, n + 4, n + 5] → s.heap.get? b = some o → h'.get? b = some o) → (∃ o, h'.get? e = some o ∧ o.cls = .type "StopIteration") → E (.ref e) { s with heap := h' }) :
    wpAny (model prog w) A (Builtin.«zip.__next__» ⟨[.ref (n + 5)], []⟩) Q E s := by
  obtain ⟨hz, hti, ⟨a, b, c, hto⟩, hi1, hi2, hi3⟩ := D
  refine (show wpAny _ _ (field (.ref (n + 5)) 2 >>= _) _ _ _ from wpAny_bind (wpAny_field hz rfl (x := .bool false) rfl ?_))
  refine (show wpAny _ _ (field (.ref (n + 5)) 3 >>= _) _ _ _ from wpAny_bind (wpAny_field hz rfl (x := .ref (n + 3)) rfl ?_))
  refine wpAny_bind (wpAny_seqItems hti rfl ?_)
  refine (show wpAny _ _ (Builtin.SmallTypes.ownedTupleIsFree (.ref (n + 5)) >>= _) _ _ _ from wpAny_bind ?_)
  unfold Builtin.SmallTypes.ownedTupleIsFree
  refine wpAny_bind (wpAny_field hz rfl (x := .none) rfl (wpAny_pure ?_))
  simp only [if_true]
  refine wpAny_bind (wpAny_rule ?_)
  refine wpAny_bind (wpAny_field hz rfl (x := .ref (n + 4)) rfl ?_)
  refine wpAny_bind (wpAny_setField_rec hz (by simp) fun h1 hz1 s1 => ?_)
  replace hz1 : ZipO h1 (n + 5) (n + 3) (n + 4) .ellipsis false := hz1
  refine wpAny_bind ?_
  simp only [List.zipIdx_cons, List.zipIdx_nil, List.forIn_cons, List.forIn_nil]
  have k1 : ∀ (c : Nat) o, c ≠ (n + 5) → s.heap.get? c = some o → h1.get? c = some o := fun c o q e => s1.extBut c o q e
  have a0 : SIt h1 t1 n l1 i := hi1.at fun o q => k1 n o (by omega) q
  have b0 : SOb h1 t1 l1 xs := o1.at fun o q => k1 l1 o (by omega) q
  refine wpAny_bind (drawS (s := { s with heap := h1 }) (c := Value.bool false == Value.bool true) a0 b0 hx (fun h2 g0 s2 => ?_) _)
  have to0 : TupO h2 (n + 4) #[a, b, c] := s2.extBut (n + 4) _ (show (n + 4) ≠ n by omega) (k1 (n + 4) _ (by omega) hto)
  refine wpAny_bind (wpAny_seqItems to0 rfl (wpAny_bind (updTup to0 (Nat.le_of_ble_eq_true rfl) fun h3 tn0 s3 => wpAny_bind (wpAny_letGo (wpAny_pure ?_)))))
  replace tn0 : TupO h3 (n + 4) #[x, b, c] := tn0
  have k3 : ∀ (c : Nat) o, c ≠ (n + 5) → c ≠ (n + 4) → c ≠ n → s.heap.get? c = some o → h3.get? c = some o := fun c o q0 q1 q2 e => s3.extBut c o q1 (s2.extBut c o q2 (k1 c o q0 e))
  have a1 : SIt h3 t2 (n + 1) l2 i := hi2.at fun o q => k3 (n + 1) o (by omega) (by omega) (by omega) q
  have b1 : SOb h3 t2 l2 ys := o2.at fun o q => k3 l2 o (by omega) (by omega) (by omega) q
  have zz : ZipO h3 (n + 5) (n + 3) (n + 4) .ellipsis false := s3.extBut (n + 5) _ (show (n + 5) ≠ (n + 4) by omega) (s2.extBut (n + 5) _ (show (n + 5) ≠ n by omega) (hz1))
  refine wpAny_bind (wpAny_bind (wpAny_onRaise (show wpAny _ _ (nextOf (.ref (n + 1)) >>= _) _ _ _ from wpAny_bind (nextE (s := { s with heap := h3 }) hh a1 b1 hend fun hA e sA he => ?_))))
  obtain ⟨oe, hoe, hce⟩ := he
  have zA : ZipO hA (n + 5) (n + 3) (n + 4) .ellipsis false := sA (n + 5) _ (show (n + 5) ≠ (n + 1) by omega) zz
  have hez : e ≠ (n + 5) := fun q => by subst q; rw [ZipO, hoe] at zA; cases zA; simp at hce
  refine wpAny_setField_rec zA (by simp) fun hB _ sB => hE hB e (fun c o hc q => ?_) ⟨oe, sB.extBut _ _ hez hoe, hce⟩
  simp only [List.mem_cons, List.mem_nil_iff, or_false, not_or] at hc
  exact sB.extBut c o hc.2.2.2.2.2 (sA c o hc.2.1 (k3 c o hc.2.2.2.2.2 hc.2.2.2.2.1 hc.1 q))
theorem z3_endF2 {x : Value} {y : Value} {Q : Fin → Shared → Prop} (hh : A.handled = none) (D : Z3 s.heap n false t1 t2 t3 l1 l2 l3 i) (n1 : l1 < n) (n2 : l2 < n) (n3 : l3 < n) (o1 : SOb s.heap t1 l1 xs) (o2 : SOb s.heap t2 l2 ys) (o3 : SOb s.heap t3 l3 zs) (hx : xs[i]? = some x) (hy : ys[i]? = some y) (hend : zs[i]? = none)
    (hE : ∀ h' e, (∀ b o, b ∉ [n, n + 1, n + 2, n + 3, n + 4, n + 5] → s.heap.get? b = some o → h'.get? b = some o) → (∃ o, h'.get? e = some o ∧ o.cls = .type "StopIteration") → E (.ref e) { s with heap := h' }) :
    wpAny (model prog w) A (Builtin.«zip.__next__» ⟨[.ref (n + 5)], []⟩) Q E s := by
  obtain ⟨hz, hti, ⟨a, b, c, hto⟩, hi1, hi2, hi3⟩ := D
  refine (show wpAny _ _ (field (.ref (n + 5)) 2 >>= _) _ _ _ from wpAny_bind (wpAny_field hz rfl (x := .bool false) rfl ?_))
  refine (show wpAny _ _ (field (.ref (n + 5)) 3 >>= _) _ _ _ from wpAny_bind (wpAny_field hz rfl (x := .ref (n + 3)) rfl ?_))
  refine wpAny_bind (wpAny_seqItems hti rfl ?_)
  refine (show wpAny _ _ (Builtin.SmallTypes.ownedTupleIsFree (.ref (n + 5)) >>= _) _ _ _ from wpAny_bind ?_)
  unfold Builtin.SmallTypes.ownedTupleIsFree
  refine wpAny_bind (wpAny_field hz rfl (x := .none) rfl (wpAny_pure ?_))
  simp only [if_true]
  refine wpAny_bind (wpAny_rule ?_)
  refine wpAny_bind (wpAny_field hz rfl (x := .ref (n + 4)) rfl ?_)
  refine wpAny_bind (wpAny_setField_rec hz (by simp) fun h1 hz1 s1 => ?_)
  replace hz1 : ZipO h1 (n + 5) (n + 3) (n + 4) .ellipsis false := hz1
  refine wpAny_bind ?_
  simp only [List.zipIdx_cons, List.zipIdx_nil, List.forIn_cons, List.forIn_nil]
  have k1 : ∀ (c : Nat) o, c ≠ (n + 5) → s.heap.get? c = some o → h1.get? c = some o := fun c o q e => s1.extBut c o q e
  have a0 : SIt h1 t1 n l1 i := hi1.at fun o q => k1 n o (by omega) q
  have b0 : SOb h1 t1 l1 xs := o1.at fun o q => k1 l1 o (by omega) q
  refine wpAny_bind (drawS (s := { s with heap := h1 }) (c := Value.bool false == Value.bool true) a0 b0 hx (fun h2 g0 s2 => ?_) _)
  have to0 : TupO h2 (n + 4) #[a, b, c] := s2.extBut (n + 4) _ (show (n + 4) ≠ n by omega) (k1 (n + 4) _ (by omega) hto)
  refine wpAny_bind (wpAny_seqItems to0 rfl (wpAny_bind (updTup to0 (Nat.le_of_ble_eq_true rfl) fun h3 tn0 s3 => wpAny_bind (wpAny_letGo (wpAny_pure ?_)))))
  replace tn0 : TupO h3 (n + 4) #[x, b, c] := tn0
  have k3 : ∀ (c : Nat) o, c ≠ (n + 5) → c ≠ (n + 4) → c ≠ n → s.heap.get? c = some o → h3.get? c = some o := fun c o q0 q1 q2 e => s3.extBut c o q1 (s2.extBut c o q2 (k1 c o q0 e))
  have a1 : SIt h3 t2 (n + 1) l2 i := hi2.at fun o q => k3 (n + 1) o (by omega) (by omega) (by omega) q
  have b1 : SOb h3 t2 l2 ys := o2.at fun o q => k3 l2 o (by omega) (by omega) (by omega) q
  refine wpAny_bind (drawS (s := { s with heap := h3 }) (c := Value.bool false == Value.bool true) a1 b1 hy (fun h4 g1 s4 => ?_) _)
  have to1 : TupO h4 (n + 4) #[x, b, c] := s4.extBut (n + 4) _ (show (n + 4) ≠ (n + 1) by omega) tn0
  refine wpAny_bind (wpAny_seqItems to1 rfl (wpAny_bind (updTup to1 (Nat.le_of_ble_eq_true rfl) fun h5 tn1 s5 => wpAny_bind (wpAny_letGo (wpAny_pure ?_)))))
  replace tn1 : TupO h5 (n + 4) #[x, y, c] := tn1
  have k5 : ∀ (c : Nat) o, c ≠ (n + 5) → c ≠ (n + 4) → c ≠ n → c ≠ (n + 1) → s.heap.get? c = some o → h5.get? c = some o := fun c o q0 q1 q2 q3 e => s5.extBut c o q1 (s4.extBut c o q3 (k3 c o q0 q1 q2 e))
  have a2 : SIt h5 t3 (n + 2) l3 i := hi3.at fun o q => k5 (n + 2) o (by omega) (by omega) (by omega) (by omega) q
  have b2 : SOb h5 t3 l3 zs := o3.at fun o q => k5 l3 o (by omega) (by omega) (by omega) (by omega) q
  have zz : ZipO h5 (n + 5) (n + 3) (n + 4) .ellipsis false := s5.extBut (n + 5) _ (show (n + 5) ≠ (n + 4) by omega) (s4.extBut (n + 5) _ (show (n + 5) ≠ (n + 1) by omega) (s3.extBut (n + 5) _ (show (n + 5) ≠ (n + 4) by omega) (s2.extBut (n + 5) _ (show (n + 5) ≠ n by omega) (hz1))))
  refine wpAny_bind (wpAny_bind (wpAny_onRaise (show wpAny _ _ (nextOf (.ref (n + 2)) >>= _) _ _ _ from wpAny_bind (nextE (s := { s with heap := h5 }) hh a2 b2 hend fun hA e sA he => ?_))))
  obtain ⟨oe, hoe, hce⟩ := he
  have zA : ZipO hA (n + 5) (n + 3) (n + 4) .ellipsis false := sA (n + 5) _ (show (n + 5) ≠ (n + 2) by omega) zz
  have hez : e ≠ (n + 5) := fun q => by subst q; rw [ZipO, hoe] at zA; cases zA; simp at hce
  refine wpAny_setField_rec zA (by simp) fun hB _ sB => hE hB e (fun c o hc q => ?_) ⟨oe, sB.extBut _ _ hez hoe, hce⟩
  simp only [List.mem_cons, List.mem_nil_iff, or_false, not_or] at hc
  exact sB.extBut c o hc.2.2.2.2.2 (sA c o hc.2.2.1 (k5 c o hc.2.2.2.2.2 hc.2.2.2.2.1 hc.1 hc.2.1 q))
theorem z3_endT {Q : Fin → Shared → Prop} (hh : A.handled = none) (D : Z3 s.heap n true t1 t2 t3 l1 l2 l3 i) (n1 : l1 < n) (n2 : l2 < n) (n3 : l3 < n) (o1 : SOb s.heap t1 l1 xs) (o2 : SOb s.heap t2 l2 ys) (o3 : SOb s.heap t3 l3 zs) (e1 : xs[i]? = none) (e2 : ys[i]? = none) (e3 : zs[i]? = none)
    (hE : ∀ h' e, (∀ b o, b ∉ [n, n + 1, n + 2, n + 3, n + 4, n + 5] → s.heap.get? b = some o → h'.get? b = some o) → (∃ o, h'.get? e = some o ∧ o.cls = .type "StopIteration") → E (.ref e) { s with heap := h' }) :
    wpAny (model prog w) A (Builtin.«zip.__next__» ⟨[.ref (n + 5)], []⟩) Q E s := by
  obtain ⟨hz, hti, ⟨a, b, c, hto⟩, hi1, hi2, hi3⟩ := D
  refine (show wpAny _ _ (field (.ref (n + 5)) 2 >>= _) _ _ _ from wpAny_bind (wpAny_field hz rfl (x := .bool true) rfl ?_))
  refine (show wpAny _ _ (field (.ref (n + 5)) 3 >>= _) _ _ _ from wpAny_bind (wpAny_field hz rfl (x := .ref (n + 3)) rfl ?_))
  refine wpAny_bind (wpAny_seqItems hti rfl ?_)
  refine (show wpAny _ _ (Builtin.SmallTypes.ownedTupleIsFree (.ref (n + 5)) >>= _) _ _ _ from wpAny_bind ?_)
  unfold Builtin.SmallTypes.ownedTupleIsFree
  refine wpAny_bind (wpAny_field hz rfl (x := .none) rfl (wpAny_pure ?_))
  simp only [if_true]
  refine wpAny_bind (wpAny_rule ?_)
  refine wpAny_bind (wpAny_field hz rfl (x := .ref (n + 4)) rfl ?_)
  refine wpAny_bind (wpAny_setField_rec hz (by simp) fun h1 hz1 s1 => ?_)
  replace hz1 : ZipO h1 (n + 5) (n + 3) (n + 4) .ellipsis true := hz1
  refine wpAny_bind ?_
  simp only [List.zipIdx_cons, List.zipIdx_nil, List.forIn_cons, List.forIn_nil]
  have k1 : ∀ (c : Nat) o, c ≠ (n + 5) → s.heap.get? c = some o → h1.get? c = some o := fun c o q e => s1.extBut c o q e
  have a0 : SIt h1 t1 n l1 i := hi1.at fun o q => k1 n o (by omega) q
  have b0 : SOb h1 t1 l1 xs := o1.at fun o q => k1 l1 o (by omega) q
  refine wpAny_bind (wpAny_bind (wpAny_onRaise (show wpAny _ _ (nextOrEnd (.ref n)) _ _ _ from nextE' (s := { s with heap := h1 }) hh a0 b0 e1 fun h2 s2 => ?_)))
  have z2 : ZipO h2 (n + 5) (n + 3) (n + 4) .ellipsis true := s2 (n + 5) _ (show (n + 5) ≠ n by omega) hz1
  refine wpAny_bind (wpAny_setField_rec z2 (by simp) fun h3 z3 s3 => wpAny_bind ?_)
  have k3 : ∀ (c : Nat) o, c ≠ (n + 5) → c ≠ n → s.heap.get? c = some o → h3.get? c = some o := fun c o q0 q1 e => s3.extBut c o q0 (s2 c o q1 (k1 c o q0 e))
  refine wpAny_bind ?_
  simp only [List.drop_succ_cons, List.drop_zero, List.zipIdx_cons, List.zipIdx_nil, List.forIn_cons, List.forIn_nil]
  have a1 : SIt h3 t2 (n + 1) l2 i := hi2.at fun o q => k3 (n + 1) o (by omega) (by omega) q
  have b1 : SOb h3 t2 l2 ys := o2.at fun o q => k3 l2 o (by omega) (by omega) q
  refine wpAny_bind (show wpAny _ _ (nextOrEnd (.ref (n + 1)) >>= _) _ _ _ from wpAny_bind (nextE' (s := { s with heap := h3 }) hh a1 b1 e2 fun h4 s4 => ?_))
  simp only [Option.isSome_none, Bool.false_eq_true, if_false]
  refine wpAny_pure ?_
  have k4 : ∀ (c : Nat) o, c ≠ (n + 5) → c ≠ n → c ≠ (n + 1) → s.heap.get? c = some o → h4.get? c = some o := fun c o q0 q1 q2 e => s4 c o q2 (k3 c o q0 q1 e)
  have a2 : SIt h4 t3 (n + 2) l3 i := hi3.at fun o q => k4 (n + 2) o (by omega) (by omega) (by omega) q
  have b2 : SOb h4 t3 l3 zs := o3.at fun o q => k4 l3 o (by omega) (by omega) (by omega) q
  refine wpAny_bind (show wpAny _ _ (nextOrEnd (.ref (n + 2)) >>= _) _ _ _ from wpAny_bind (nextE' (s := { s with heap := h4 }) hh a2 b2 e3 fun h5 s5 => ?_))
  simp only [Option.isSome_none, Bool.false_eq_true, if_false]
  refine wpAny_pure ?_
  have k5 : ∀ (c : Nat) o, c ≠ (n + 5) → c ≠ n → c ≠ (n + 1) → c ≠ (n + 2) → s.heap.get? c = some o → h5.get? c = some o := fun c o q0 q1 q2 q3 e => s5 c o q3 (k4 c o q0 q1 q2 e)
  refine wpAny_pure (wpAny_bind (wpAny_rule (stopS hh fun hB e sB he => hE hB e (fun c o hc q => ?_) he)))
  simp only [List.mem_cons, List.mem_nil_iff, or_false, not_or] at hc
  exact sB c o (k5 c o hc.2.2.2.2.2 hc.1 hc.2.1 hc.2.2.1 q)
end
end DL


set_option Elab.async false
set_option linter.all false
set_option maxRecDepth 100000
set_option maxHeartbeats 2000000
/-! DL8: what a zip walks (Turn). -/
namespace DL
open PySem PySem.Spec PyProof.Rows L2
open PySem.Builtin.SmallTypes (nextOf nextOrEnd)
def Sq (K : PySem.W.Frag) (H : Hp) (t : Bool) (a : Addr) (xs : List V) : Prop := if t = true then SqT K H a xs else SqL K H a xs
theorem sq_ob {X : Cx} {pins : List (Addr × Obj)} {σ : L2.St} {H : Hp} {s : Shared} {t : Bool} {a : Addr} {xs : List V} (I : L2.Inv X pins σ H s) (h : Sq X.K H t a xs) : ∃ its : List Value, Vals xs its ∧ SOb s.heap t a its.toArray := by
  cases t
  · obtain ⟨its, rv, p, _⟩ := I.list (show SqL X.K H a xs from h)
    exact ⟨its, rv, p.isList⟩
  · obtain ⟨its, rv, p, _⟩ := I.tuple (show SqT X.K H a xs from h)
    exact ⟨its, rv, p⟩
theorem sq_inj {X : Cx} {pins : List (Addr × Obj)} {σ : L2.St} {H : Hp} {s : Shared} {t : Bool} {a : Addr} {xs ys : List V} (I : L2.Inv X pins σ H s) (h : Sq X.K H t a xs) (h2 : Sq X.K H t a ys) : xs = ys := by
  cases t
  · exact I.list_inj h h2
  · exact I.tuple_inj h h2
theorem SOb.lt {h : Heap} {t : Bool} {a : Addr} {its : Array Value} (x : SOb h t a its) : a < h.objs.size := by
  cases t
  · obtain ⟨o, ho, _⟩ := (show h.IsList a its from x)
    exact Heap.lt_size ho
  · obtain ⟨o, ho, _⟩ := (show h.IsTuple a its from x)
    exact Heap.lt_size ho
section
variable {prog : Program} {w : World} {A : Around} {E : Value → Shared → Prop} {s : Shared} {n l1 l2 l3 : Nat} {st t1 t2 t3 : Bool} {i : Nat} {xs ys zs : Array Value}
/-- the owned tuple is let go by an unpacking target -/
theorem letGoZ {elts : List Expr} {x1 : Nat} {pos : Pos} {z TI TO T : Addr} {Q : Unit → Shared → Prop} (hz : ZipO s.heap z TI TO (rawInt T) st) (hQ : ∀ h', ZipO h' z TI TO .none st → Heap.SameBut z s.heap h' → Q () { s with heap := h' }) :
    wpAny (model prog w) A (letOwnedTupleGo (.Tuple elts x1 pos) (.ref z) (.ref T)) Q E s := by
  unfold letOwnedTupleGo
  refine wpAny_bind (wpAny_load hz ?_)
  refine (show wpAny _ _ (if ((["enumerate", "zip", "dict_itemiterator", "dict_reverseitemiterator", "odict_iterator", "itertools.zip_longest", "itertools.pairwise"] : List String).contains "zip" && ((#[rawInt T, .bool false, .bool st, .ref TI, .ref TO] : Array Value)[0]? == some (rawInt T))) = true then _ else _) Q E s from ?_)
  rw [if_pos (by simp)]
  refine wpAny_bind (wpAny_rule ?_)
  exact (show wpAny _ _ (setField (.ref z) 0 .none) Q E s from wpAny_setField_rec hz (by simp) fun h' a b => hQ h' a b)
theorem iterZ {z TI TO : Addr} {f0 : Value} {Q : Value → Shared → Prop} (hz : ZipO s.heap z TI TO f0 st) (h : Q (.ref z) s) : wpAny (model prog w) A (pyIter (.ref z)) Q E s := by
  have hT : s.TypeIs (.ref z) "zip" := ⟨_, hz, rfl⟩
  refine wpAny_pyIter_slot hT F.slot_zip_iter (wpAny_call_entry F.slot_zip_iter hT F.entry_zip_iter ?_ (F.args_zip_iter_1 _))
  exact (show wpAny _ _ (ret (.ref z)) _ _ s from wpAny_pure ⟨_, rfl, "zip", _, hT, F.slot_zip_next.lookup, h⟩)
theorem z2_next {x y : Value} {Q : Option Value → Shared → Prop} (D : Z2 s.heap n st t1 t2 l1 l2 i) (n1 : l1 < n) (n2 : l2 < n) (o1 : SOb s.heap t1 l1 xs) (o2 : SOb s.heap t2 l2 ys) (hx : xs[i]? = some x) (hy : ys[i]? = some y)
    (hQ : ∀ h', ZipO h' (n + 4) (n + 2) (n + 3) (rawInt s.heap.objs.size) st → TupO h' (n + 2) #[.ref n, .ref (n + 1)] → TupO h' (n + 3) #[x, y] → SIt h' t1 n l1 (i + 1) → SIt h' t2 (n + 1) l2 (i + 1) → TupO h' s.heap.objs.size #[x, y] →
      h'.objs.size = s.heap.objs.size + 1 → (∀ b o, b ∉ [n, n + 1, n + 2, n + 3, n + 4] → s.heap.get? b = some o → h'.get? b = some o) → Q (some (.ref s.heap.objs.size)) { s with heap := h' }) : wpAny (model prog w) A (pyNext (.ref (n + 4))) Q E s := by
  have hT : s.TypeIs (.ref (n + 4)) "zip" := ⟨_, D.z, rfl⟩
  unfold pyNext
  refine wpAny_bind (wpAny_attempt (wpAny_callSpecial?_slot (name := Str.ofString "__next__") hT F.slot_zip_next (wpAny_call_entry F.slot_zip_next hT F.entry_zip_next ?_ (F.args_zip_next_1 _))))
  exact z2_item D n1 n2 o1 o2 hx hy fun h' a b c d0 d1 e f g => wpAny_pure (hQ h' a b c d0 d1 e f g)
theorem z2_stop {Q : Option Value → Shared → Prop} (hh : A.handled = none) (D : Z2 s.heap n st t1 t2 l1 l2 i) (n1 : l1 < n) (n2 : l2 < n) (o1 : SOb s.heap t1 l1 xs) (o2 : SOb s.heap t2 l2 ys)
    (hend : if st = true then xs[i]? = none ∧ ys[i]? = none else xs[i]? = none ∨ ys[i]? = none)
    (hQ : ∀ h', (∀ b o, b ∉ [n, n + 1, n + 2, n + 3, n + 4] → s.heap.get? b = some o → h'.get? b = some o) → Q none { s with heap := h' }) : wpAny (model prog w) A (pyNext (.ref (n + 4))) Q E s := by
  have hT : s.TypeIs (.ref (n + 4)) "zip" := ⟨_, D.z, rfl⟩
  have fin : ∀ h' e, (∀ b o, b ∉ [n, n + 1, n + 2, n + 3, n + 4] → s.heap.get? b = some o → h'.get? b = some o) → (∃ o, h'.get? e = some o ∧ o.cls = .type "StopIteration") →
      wpAny (model prog w) A (do if ← isInstance (.ref e) (.type "StopIteration") then pure none else throw (.ref e)) Q E { s with heap := h' } := fun h' e k he => by
    obtain ⟨o, ho, hc⟩ := he
    exact wpAny_bind (wpAny_isInstance (T := "StopIteration") (b := true) ⟨o, ho, hc⟩ isSubtype_stop (wpAny_pure (hQ _ k)))
  unfold pyNext
  refine wpAny_bind (wpAny_attempt (wpAny_callSpecial?_slot (name := Str.ofString "__next__") hT F.slot_zip_next (wpAny_call_entry F.slot_zip_next hT F.entry_zip_next ?_ (F.args_zip_next_1 _))))
  cases st with
  | true =>
    obtain ⟨e0, e1⟩ : xs[i]? = none ∧ ys[i]? = none := hend
    exact z2_endT hh D n1 n2 o1 o2 e0 e1 fun h' e k he => fin h' e k he
  | false =>
    have hend : xs[i]? = none ∨ ys[i]? = none := hend
    cases hx : xs[i]? with
    | none => exact z2_endF0 hh D n1 n2 o1 o2  hx fun h' e k he => fin h' e k he
    | some x =>
      have q1 : ys[i]? = none := by simpa [hx] using hend
      exact z2_endF1 hh D n1 n2 o1 o2 hx q1 fun h' e k he => fin h' e k he
/-- what such a zip walks -/
def Jz2 (K : PySem.W.Frag) (st t1 t2 : Bool) (l1 l2 : Nat) : L2.It :=
  ⟨fun i H => ∃ (xs ys : List V) (x y : V), Sq K H t1 l1 xs ∧ xs[i]? = some x ∧ Sq K H t2 l2 ys ∧ ys[i]? = some y,
    fun i H r H' => ∃ (T : Addr) (x y : V), r = .ref T ∧ H T = none ∧ H' = upd H T (.tup [x, y]) ∧ (∀ us, Sq K H t1 l1 us → us[i]? = some x) ∧ (∀ us, Sq K H t2 l2 us → us[i]? = some y),
    fun i H => ∃ xs ys : List V, Sq K H t1 l1 xs ∧ Sq K H t2 l2 ys ∧ if st = true then xs.length ≤ i ∧ ys.length ≤ i else xs.length ≤ i ∨ ys.length ≤ i⟩
theorem turnZ2 {P : Program} {w : World} {K : PySem.W.Frag} {elts : List Expr} {kk : Nat} {tpos : Pos} (n l1 l2 : Nat) (st t1 t2 : Bool) (n1 : l1 < n) (n2 : l2 < n) :
    Turn P w K (.Tuple elts kk tpos) (Jz2 K st t1 t2 l1 l2) [n, n + 1, n + 2, n + 3, n + 4] (n + 4) (fun i h => Z2 h n st t1 t2 l1 l2 i) where
  mem := by simp
  obj := fun i h D b hb => by
    obtain ⟨dz, dti, ⟨wa, wb, dto⟩, d1, d2⟩ := D
    have hb' : b = n ∨ b = n + 1 ∨ b = n + 2 ∨ b = n + 3 ∨ b = n + 4 := by simpa using hb
    rcases hb' with rfl | rfl | rfl | rfl | rfl
    · exact d1.obj
    · exact d2.obj
    · exact ⟨_, dti, fun v z => nomatch z⟩
    · exact ⟨_, dto, fun v z => nomatch z⟩
    · exact ⟨_, dz, fun v z => nomatch z⟩
  keep := fun i h h' D k => ⟨k (n + 4) (by simp) _ D.z, k (n + 2) (by simp) _ D.ti, (let ⟨wa, wb, q⟩ := D.to; ⟨wa, wb, k (n + 3) (by simp) _ q⟩), D.i1.at fun o q => k n (by simp) o q, D.i2.at fun o q => k (n + 1) (by simp) o q⟩
  item := by
    intro X hP hw hK hc i pins s σ H E I hf D hg
    subst hP hw hK
    obtain ⟨xs, ys, x, y, q0, g0, q1, g1⟩ := hg
    obtain ⟨is0, rv0, p0⟩ := sq_ob I q0
    obtain ⟨is1, rv1, p1⟩ := sq_ob I q1
    obtain ⟨u0, hu0, ru0⟩ := rv0.get g0
    obtain ⟨u1, hu1, ru1⟩ := rv1.get g1
    refine z2_next D n1 n2 p0 p1 (by simpa using hu0) (by simpa using hu1) fun h' az ati ato ai0 ai1 aT asz ak => ?_
    refine ⟨_, rfl, ?_⟩
    refine letGoZ (s := { s with heap := h' }) az fun h2 bz sb => ?_
    have hzl : (n + 4) < s.heap.objs.size := Heap.lt_size D.z
    have k2 : ∀ (b : Nat) o, b ≠ (n + 4) → h'.get? b = some o → h2.get? b = some o := fun b o q e => sb.extBut b o q e
    have T2 : TupO h2 s.heap.objs.size #[u0, u1] := k2 _ _ (Nat.ne_of_gt hzl) aT
    have new : ObjOk X.prog X.w (upd H s.heap.objs.size (.tup [x, y])) h2 s.heap.objs.size (.tup [x, y]) :=
      ⟨by show 2 ≤ sizeLine; decide, [u0, u1], .cons ru0 (.cons ru1 .nil), ⟨_, T2, rfl, _, rfl⟩⟩
    have I1 : L2.Inv X pins σ (upd H s.heap.objs.size (.tup [x, y])) { s with heap := h2 } :=
      I.turnedNew (t' := s.toks) (ch := [n, n + 1, n + 2, n + 3, n + 4]) (fun b o hb q => k2 b o (fun z => hb (by simp [z])) (ak b o hb q)) hf (Nat.le_refl _) new
    refine ⟨.ref s.heap.objs.size, _, I1, rfl, ⟨_, x, y, rfl, I.hok.fresh (Nat.le_refl _), rfl, fun us hus => by rw [sq_inj I hus q0]; exact g0, fun us hus => by rw [sq_inj I hus q1]; exact g1⟩, ⟨bz, k2 _ _ (by omega) ati, ⟨_, _, k2 _ _ (by omega) ato⟩, ai0.at fun o q => k2 _ o (by omega) q, ai1.at fun o q => k2 _ o (by omega) q⟩, fun b hb => ?_⟩
    have hlt : b < s.heap.objs.size := by
      have hob : ∃ o, s.heap.get? b = some o ∧ ∀ v, o.data ≠ .cell v := by
        obtain ⟨dz, dti, ⟨wa, wb, dto⟩, d1, d2⟩ := D
        have hb' : b = n ∨ b = n + 1 ∨ b = n + 2 ∨ b = n + 3 ∨ b = n + 4 := by simpa using hb
        rcases hb' with rfl | rfl | rfl | rfl | rfl
        · exact d1.obj
        · exact d2.obj
        · exact ⟨_, dti, fun v z => nomatch z⟩
        · exact ⟨_, dto, fun v z => nomatch z⟩
        · exact ⟨_, dz, fun v z => nomatch z⟩
      obtain ⟨o, ho, _⟩ := hob
      exact Heap.lt_size ho
    rw [upd_ne (Nat.ne_of_lt hlt)]
    exact (hf b hb).1
  done := by
    intro X hP hw hK hc i pins s σ H E I hf D hg
    subst hP hw hK
    obtain ⟨xs, ys, q0, q1, hend⟩ := hg
    obtain ⟨is0, rv0, p0⟩ := sq_ob I q0
    obtain ⟨is1, rv1, p1⟩ := sq_ob I q1
    have e0 := rv0.length
    have e1 := rv1.length
    refine z2_stop (I.ok.hd hc) D n1 n2 p0 p1 ?_ fun h' ak => ⟨rfl, I.turnedL (t' := s.toks) (ch := [n, n + 1, n + 2, n + 3, n + 4]) (fun b o hb q => ak b o hb q) hf⟩
    cases st with
    | true =>
      obtain ⟨g0, g1⟩ : xs.length ≤ i ∧ ys.length ≤ i := hend
      exact ⟨by simp; omega, by simp; omega⟩
    | false =>
      have hend : xs.length ≤ i ∨ ys.length ≤ i := hend
      show is0.toArray[i]? = none ∨ is1.toArray[i]? = none
      rcases hend with g | g
      · exact .inl (by simp; omega)
      · exact .inr ((by simp; omega))
  self := fun A i s Q E D h => iterZ D.z h

theorem z3_next {x y v : Value} {Q : Option Value → Shared → Prop} (D : Z3 s.heap n st t1 t2 t3 l1 l2 l3 i) (n1 : l1 < n) (n2 : l2 < n) (n3 : l3 < n) (o1 : SOb s.heap t1 l1 xs) (o2 : SOb s.heap t2 l2 ys) (o3 : SOb s.heap t3 l3 zs) (hx : xs[i]? = some x) (hy : ys[i]? = some y) (hv : zs[i]? = some v)
    (hQ : ∀ h', ZipO h' (n + 5) (n + 3) (n + 4) (rawInt s.heap.objs.size) st → TupO h' (n + 3) #[.ref n, .ref (n + 1), .ref (n + 2)] → TupO h' (n + 4) #[x, y, v] → SIt h' t1 n l1 (i + 1) → SIt h' t2 (n + 1) l2 (i + 1) → SIt h' t3 (n + 2) l3 (i + 1) → TupO h' s.heap.objs.size #[x, y, v] →
      h'.objs.size = s.heap.objs.size + 1 → (∀ b o, b ∉ [n, n + 1, n + 2, n + 3, n + 4, n + 5] → s.heap.get? b = some o → h'.get? b = some o) → Q (some (.ref s.heap.objs.size)) { s with heap := h' }) : wpAny (model prog w) A (pyNext (.ref (n + 5))) Q E s := by
  have hT : s.TypeIs (.ref (n + 5)) "zip" := ⟨_, D.z, rfl⟩
  unfold pyNext
  refine wpAny_bind (wpAny_attempt (wpAny_callSpecial?_slot (name := Str.ofString "__next__") hT F.slot_zip_next (wpAny_call_entry F.slot_zip_next hT F.entry_zip_next ?_ (F.args_zip_next_1 _))))
  exact z3_item D n1 n2 n3 o1 o2 o3 hx hy hv fun h' a b c d0 d1 d2 e f g => wpAny_pure (hQ h' a b c d0 d1 d2 e f g)
theorem z3_stop {Q : Option Value → Shared → Prop} (hh : A.handled = none) (D : Z3 s.heap n st t1 t2 t3 l1 l2 l3 i) (n1 : l1 < n) (n2 : l2 < n) (n3 : l3 < n) (o1 : SOb s.heap t1 l1 xs) (o2 : SOb s.heap t2 l2 ys) (o3 : SOb s.heap t3 l3 zs)
    (hend : if st = true then xs[i]? = none ∧ ys[i]? = none ∧ zs[i]? = none else xs[i]? = none ∨ ys[i]? = none ∨ zs[i]? = none)
    (hQ : ∀ h', (∀ b o, b ∉ [n, n + 1, n + 2, n + 3, n + 4, n + 5] → s.heap.get? b = some o → h'.get? b = some o) → Q none { s with heap := h' }) : wpAny (model prog w) A (pyNext (.ref (n + 5))) Q E s := by
  have hT : s.TypeIs (.ref (n + 5)) "zip" := ⟨_, D.z, rfl⟩
  have fin : ∀ h' e, (∀ b o, b ∉ [n, n + 1, n + 2, n + 3, n + 4, n + 5] → s.heap.get? b = some o → h'.get? b = some o) → (∃ o, h'.get? e = some o ∧ o.cls = .type "StopIteration") →
      wpAny (model prog w) A (do if ← isInstance (.ref e) (.type "StopIteration") then pure none else throw (.ref e)) Q E { s with heap := h' } := fun h' e k he => by
    obtain ⟨o, ho, hc⟩ := he
    exact wpAny_bind (wpAny_isInstance (T := "StopIteration") (b := true) ⟨o, ho, hc⟩ isSubtype_stop (wpAny_pure (hQ _ k)))
  unfold pyNext
  refine wpAny_bind (wpAny_attempt (wpAny_callSpecial?_slot (name := Str.ofString "__next__") hT F.slot_zip_next (wpAny_call_entry F.slot_zip_next hT F.entry_zip_next ?_ (F.args_zip_next_1 _))))
  cases st with
  | true =>
    obtain ⟨e0, e1, e2⟩ : xs[i]? = none ∧ ys[i]? = none ∧ zs[i]? = none := hend
    exact z3_endT hh D n1 n2 n3 o1 o2 o3 e0 e1 e2 fun h' e k he => fin h' e k he
  | false =>
    have hend : xs[i]? = none ∨ ys[i]? = none ∨ zs[i]? = none := hend
    cases hx : xs[i]? with
    | none => exact z3_endF0 hh D n1 n2 n3 o1 o2 o3  hx fun h' e k he => fin h' e k he
    | some x =>
      cases hy : ys[i]? with
      | none => exact z3_endF1 hh D n1 n2 n3 o1 o2 o3 hx hy fun h' e k he => fin h' e k he
      | some y =>
        have q2 : zs[i]? = none := by simpa [hx, hy] using hend
        exact z3_endF2 hh D n1 n2 n3 o1 o2 o3 hx hy q2 fun h' e k he => fin h' e k he
/-- what such a zip walks -/
def Jz3 (K : PySem.W.Frag) (st t1 t2 t3 : Bool) (l1 l2 l3 : Nat) : L2.It :=
  ⟨fun i H => ∃ (xs ys zs : List V) (x y v : V), Sq K H t1 l1 xs ∧ xs[i]? = some x ∧ Sq K H t2 l2 ys ∧ ys[i]? = some y ∧ Sq K H t3 l3 zs ∧ zs[i]? = some v,
    fun i H r H' => ∃ (T : Addr) (x y v : V), r = .ref T ∧ H T = none ∧ H' = upd H T (.tup [x, y, v]) ∧ (∀ us, Sq K H t1 l1 us → us[i]? = some x) ∧ (∀ us, Sq K H t2 l2 us → us[i]? = some y) ∧ (∀ us, Sq K H t3 l3 us → us[i]? = some v),
    fun i H => ∃ xs ys zs : List V, Sq K H t1 l1 xs ∧ Sq K H t2 l2 ys ∧ Sq K H t3 l3 zs ∧ if st = true then xs.length ≤ i ∧ ys.length ≤ i ∧ zs.length ≤ i else xs.length ≤ i ∨ ys.length ≤ i ∨ zs.length ≤ i⟩
theorem turnZ3 {P : Program} {w : World} {K : PySem.W.Frag} {elts : List Expr} {kk : Nat} {tpos : Pos} (n l1 l2 l3 : Nat) (st t1 t2 t3 : Bool) (n1 : l1 < n) (n2 : l2 < n) (n3 : l3 < n) :
    Turn P w K (.Tuple elts kk tpos) (Jz3 K st t1 t2 t3 l1 l2 l3) [n, n + 1, n + 2, n + 3, n + 4, n + 5] (n + 5) (fun i h => Z3 h n st t1 t2 t3 l1 l2 l3 i) where
  mem := by simp
  obj := fun i h D b hb => by
    obtain ⟨dz, dti, ⟨wa, wb, wc, dto⟩, d1, d2, d3⟩ := D
    have hb' : b = n ∨ b = n + 1 ∨ b = n + 2 ∨ b = n + 3 ∨ b = n + 4 ∨ b = n + 5 := by simpa using hb
    rcases hb' with rfl | rfl | rfl | rfl | rfl | rfl
    · exact d1.obj
    · exact d2.obj
    · exact d3.obj
    · exact ⟨_, dti, fun v z => nomatch z⟩
    · exact ⟨_, dto, fun v z => nomatch z⟩
    · exact ⟨_, dz, fun v z => nomatch z⟩
  keep := fun i h h' D k => ⟨k (n + 5) (by simp) _ D.z, k (n + 3) (by simp) _ D.ti, (let ⟨wa, wb, wc, q⟩ := D.to; ⟨wa, wb, wc, k (n + 4) (by simp) _ q⟩), D.i1.at fun o q => k n (by simp) o q, D.i2.at fun o q => k (n + 1) (by simp) o q, D.i3.at fun o q => k (n + 2) (by simp) o q⟩
  item := by
    intro X hP hw hK hc i pins s σ H E I hf D hg
    subst hP hw hK
    obtain ⟨xs, ys, zs, x, y, v, q0, g0, q1, g1, q2, g2⟩ := hg
    obtain ⟨is0, rv0, p0⟩ := sq_ob I q0
    obtain ⟨is1, rv1, p1⟩ := sq_ob I q1
    obtain ⟨is2, rv2, p2⟩ := sq_ob I q2
    obtain ⟨u0, hu0, ru0⟩ := rv0.get g0
    obtain ⟨u1, hu1, ru1⟩ := rv1.get g1
    obtain ⟨u2, hu2, ru2⟩ := rv2.get g2
    refine z3_next D n1 n2 n3 p0 p1 p2 (by simpa using hu0) (by simpa using hu1) (by simpa using hu2) fun h' az ati ato ai0 ai1 ai2 aT asz ak => ?_
    refine ⟨_, rfl, ?_⟩
    refine letGoZ (s := { s with heap := h' }) az fun h2 bz sb => ?_
    have hzl : (n + 5) < s.heap.objs.size := Heap.lt_size D.z
    have k2 : ∀ (b : Nat) o, b ≠ (n + 5) → h'.get? b = some o → h2.get? b = some o := fun b o q e => sb.extBut b o q e
    have T2 : TupO h2 s.heap.objs.size #[u0, u1, u2] := k2 _ _ (Nat.ne_of_gt hzl) aT
    have new : ObjOk X.prog X.w (upd H s.heap.objs.size (.tup [x, y, v])) h2 s.heap.objs.size (.tup [x, y, v]) :=
      ⟨by show 3 ≤ sizeLine; decide, [u0, u1, u2], .cons ru0 (.cons ru1 (.cons ru2 .nil)), ⟨_, T2, rfl, _, rfl⟩⟩
    have I1 : L2.Inv X pins σ (upd H s.heap.objs.size (.tup [x, y, v])) { s with heap := h2 } :=
      I.turnedNew (t' := s.toks) (ch := [n, n + 1, n + 2, n + 3, n + 4, n + 5]) (fun b o hb q => k2 b o (fun z => hb (by simp [z])) (ak b o hb q)) hf (Nat.le_refl _) new
    refine ⟨.ref s.heap.objs.size, _, I1, rfl, ⟨_, x, y, v, rfl, I.hok.fresh (Nat.le_refl _), rfl, fun us hus => by rw [sq_inj I hus q0]; exact g0, fun us hus => by rw [sq_inj I hus q1]; exact g1, fun us hus => by rw [sq_inj I hus q2]; exact g2⟩, ⟨bz, k2 _ _ (by omega) ati, ⟨_, _, _, k2 _ _ (by omega) ato⟩, ai0.at fun o q => k2 _ o (by omega) q, ai1.at fun o q => k2 _ o (by omega) q, ai2.at fun o q => k2 _ o (by omega) q⟩, fun b hb => ?_⟩
    have hlt : b < s.heap.objs.size := by
      have hob : ∃ o, s.heap.get? b = some o ∧ ∀ v, o.data ≠ .cell v := by
        obtain ⟨dz, dti, ⟨wa, wb, wc, dto⟩, d1, d2, d3⟩ := D
        have hb' : b = n ∨ b = n + 1 ∨ b = n + 2 ∨ b = n + 3 ∨ b = n + 4 ∨ b = n + 5 := by simpa using hb
        rcases hb' with rfl | rfl | rfl | rfl | rfl | rfl
        · exact d1.obj
        · exact d2.obj
        · exact d3.obj
        · exact ⟨_, dti, fun v z => nomatch z⟩
        · exact ⟨_, dto, fun v z => nomatch z⟩
        · exact ⟨_, dz, fun v z => nomatch z⟩
      obtain ⟨o, ho, _⟩ := hob
      exact Heap.lt_size ho
    rw [upd_ne (Nat.ne_of_lt hlt)]
    exact (hf b hb).1
  done := by
    intro X hP hw hK hc i pins s σ H E I hf D hg
    subst hP hw hK
    obtain ⟨xs, ys, zs, q0, q1, q2, hend⟩ := hg
    obtain ⟨is0, rv0, p0⟩ := sq_ob I q0
    obtain ⟨is1, rv1, p1⟩ := sq_ob I q1
    obtain ⟨is2, rv2, p2⟩ := sq_ob I q2
    have e0 := rv0.length
    have e1 := rv1.length
    have e2 := rv2.length
    refine z3_stop (I.ok.hd hc) D n1 n2 n3 p0 p1 p2 ?_ fun h' ak => ⟨rfl, I.turnedL (t' := s.toks) (ch := [n, n + 1, n + 2, n + 3, n + 4, n + 5]) (fun b o hb q => ak b o hb q) hf⟩
    cases st with
    | true =>
      obtain ⟨g0, g1, g2⟩ : xs.length ≤ i ∧ ys.length ≤ i ∧ zs.length ≤ i := hend
      exact ⟨by simp; omega, by simp; omega, by simp; omega⟩
    | false =>
      have hend : xs.length ≤ i ∨ ys.length ≤ i ∨ zs.length ≤ i := hend
      show is0.toArray[i]? = none ∨ is1.toArray[i]? = none ∨ is2.toArray[i]? = none
      rcases hend with g | g | g
      · exact .inl (by simp; omega)
      · exact .inr (.inl (by simp; omega))
      · exact .inr (.inr ((by simp; omega)))
  self := fun A i s Q E D h => iterZ D.z h

end
end DL


set_option Elab.async false
set_option linter.all false
set_option maxRecDepth 100000
set_option maxHeartbeats 2000000
/-! DL9: enumerate of a list or a tuple. -/
namespace DL
open PySem PySem.Spec PyProof.Rows L2
open PySem.Builtin.SmallTypes (nextOf nextOrEnd)
abbrev EnuO (h : Heap) (e it : Addr) (i : Int) (old f0 : Value) : Prop :=
  h.get? e = some { cls := .type "enumerate", dict := none, data := .fields #[f0, .bool false, .ref it, rawInt i, .none, old], slots := #[] }
section
variable {prog : Program} {w : World} {A : Around} {E : Value → Shared → Prop} {s : Shared} {t : Bool} {e it l : Nat} {i : Nat} {items : Array Value}
theorem enuItem {x old : Value} {Q : Value → Shared → Prop} (he : EnuO s.heap e it i old .none) (hit : SIt s.heap t it l i) (hl : SOb s.heap t l items) (hx : items[i]? = some x) (hne : e ≠ it)
    (hQ : ∀ h', EnuO h' e it ((i : Int) + 1) x (rawInt s.heap.objs.size) → SIt h' t it l (i + 1) → TupO h' s.heap.objs.size #[.int i s.toks, x] → h'.objs.size = s.heap.objs.size + 1 →
      (∀ b o, b ≠ e → b ≠ it → s.heap.get? b = some o → h'.get? b = some o) → Q (.ref s.heap.objs.size) { s with heap := h', toks := s.toks + 1 }) :
    wpAny (model prog w) A (Builtin.«enumerate.__next__» ⟨[.ref e], []⟩) (fun fin s' => ∃ v, fin = .done (.ret v) ∧ Q v s') E s := by
  obtain ⟨hp, g, d, tk, os⟩ := s
  refine (show wpAny _ _ (field (.ref e) 2 >>= _) _ _ _ from wpAny_bind (wpAny_field he rfl (x := .ref it) rfl ?_))
  refine wpAny_bind (nextS hit hl hx fun h1 it1 s1 => ?_)
  have k1 : ∀ (b : Nat) o, b ≠ it → hp.get? b = some o → h1.get? b = some o := fun b o q z => s1.extBut b o q z
  have e1 : EnuO h1 e it i old .none := k1 e _ hne he
  refine (show wpAny _ _ (field (.ref e) 3 >>= _) _ _ ⟨h1, g, d, tk, os⟩ from wpAny_bind (wpAny_field e1 rfl (x := rawInt i) rfl ?_))
  refine (show wpAny _ _ (field (.ref e) 4 >>= _) _ _ ⟨h1, g, d, tk, os⟩ from wpAny_bind (wpAny_field e1 rfl (x := .none) rfl ?_))
  refine (show wpAny _ _ (mkInt i >>= _) _ _ ⟨h1, g, d, tk, os⟩ from wpAny_bind (wpAny_mkInt ?_))
  refine (show wpAny _ _ (setField (.ref e) 3 (rawInt ((i : Int) + 1)) >>= _) _ _ ⟨h1, g, d, tk + 1, os⟩ from wpAny_bind (wpAny_setField_rec e1 (by simp) fun h2 e2 s2 => ?_))
  replace e2 : EnuO h2 e it ((i : Int) + 1) old .none := e2
  refine (show wpAny _ _ (setField (.ref e) 4 .none >>= _) _ _ ⟨h2, g, d, tk + 1, os⟩ from wpAny_bind (wpAny_setField_rec e2 (by simp) fun h3 e3 s3 => ?_))
  replace e3 : EnuO h3 e it ((i : Int) + 1) old .none := e3
  refine (show wpAny _ _ (newTuple [.int i tk, x] >>= _) _ _ ⟨h3, g, d, tk + 1, os⟩ from wpAny_bind (wpAny_newTuple ?_))
  have hsz : h3.objs.size = hp.objs.size := by rw [s3.1, s2.1, s1.1]
  have up : ∀ {b : Addr} {u : Obj}, h3.get? b = some u → (h3.push (tuO #[.int i tk, x])).get? b = some u := fun q => Heap.get?_push_of_some _ q
  have e4 : EnuO (h3.push (tuO #[.int i tk, x])) e it ((i : Int) + 1) old .none := up e3
  have k4 : ∀ (b : Nat) o, b ≠ e → h1.get? b = some o → (h3.push (tuO #[.int i tk, x])).get? b = some o := fun b o q z => up (s3.extBut b o q (s2.extBut b o q z))
  have T4 : TupO (h3.push (tuO #[.int i tk, x])) hp.objs.size #[.int i tk, x] := by
    rw [← hsz]
    exact Heap.get?_push_size _ rfl
  have hel : e < hp.objs.size := Heap.lt_size he
  refine (show wpAny _ _ (Builtin.SmallTypes.ownedTupleIsFree (.ref e) >>= _) _ _ ⟨h3.push (tuO #[.int i tk, x]), g, d, tk + 1, os⟩ from wpAny_bind ?_)
  unfold Builtin.SmallTypes.ownedTupleIsFree
  refine wpAny_bind (wpAny_field e4 rfl (x := .none) rfl (wpAny_pure ?_))
  simp only [if_true]
  refine wpAny_bind (wpAny_rule ?_)
  refine wpAny_bind (wpAny_field e4 rfl (x := old) rfl ?_)
  refine wpAny_bind (wpAny_setField_rec e4 (by simp) fun h5 e5 s5 => ?_)
  replace e5 : EnuO h5 e it ((i : Int) + 1) x .none := e5
  rw [hsz]
  refine (show wpAny _ _ (Builtin.SmallTypes.ownedTupleHandOut (.ref e) (.ref hp.objs.size) >>= _) _ _ ⟨h5, g, d, tk + 1, os⟩ from wpAny_bind ?_)
  unfold Builtin.SmallTypes.ownedTupleHandOut
  refine wpAny_bind (wpAny_setField_rec e5 (by simp) fun h6 e6 s6 => ?_)
  replace e6 : EnuO h6 e it ((i : Int) + 1) x (rawInt hp.objs.size) := e6
  refine wpAny_setField_rec e6 (by simp) fun h7 e7 s7 => ?_
  replace e7 : EnuO h7 e it ((i : Int) + 1) x (rawInt hp.objs.size) := e7
  have k7 : ∀ (b : Nat) o, b ≠ e → h1.get? b = some o → h7.get? b = some o := fun b o q z => s7.extBut b o q (s6.extBut b o q (s5.extBut b o q (k4 b o q z)))
  refine wpAny_bind (wpAny_letGo (wpAny_pure ⟨_, rfl, hQ h7 e7 (it1.at fun o q => k7 it o (Ne.symm hne) q) ?_ ?_ fun b o q1 q2 z => k7 b o q1 (k1 b o q2 z)⟩))
  · exact s7.extBut _ _ (Nat.ne_of_gt hel) (s6.extBut _ _ (Nat.ne_of_gt hel) (s5.extBut _ _ (Nat.ne_of_gt hel) T4))
  · show h7.objs.size = hp.objs.size + 1
    rw [s7.1, s6.1, s5.1, Heap.size_push, hsz]
theorem enuNext {x old : Value} {Q : Option Value → Shared → Prop} (he : EnuO s.heap e it i old .none) (hit : SIt s.heap t it l i) (hl : SOb s.heap t l items) (hx : items[i]? = some x) (hne : e ≠ it)
    (hQ : ∀ h', EnuO h' e it ((i : Int) + 1) x (rawInt s.heap.objs.size) → SIt h' t it l (i + 1) → TupO h' s.heap.objs.size #[.int i s.toks, x] → h'.objs.size = s.heap.objs.size + 1 →
      (∀ b o, b ≠ e → b ≠ it → s.heap.get? b = some o → h'.get? b = some o) → Q (some (.ref s.heap.objs.size)) { s with heap := h', toks := s.toks + 1 }) : wpAny (model prog w) A (pyNext (.ref e)) Q E s := by
  have hT : s.TypeIs (.ref e) "enumerate" := ⟨_, he, rfl⟩
  unfold pyNext
  refine wpAny_bind (wpAny_attempt (wpAny_callSpecial?_slot (name := Str.ofString "__next__") hT F.slot_enumerate_next (wpAny_call_entry F.slot_enumerate_next hT F.entry_enumerate_next ?_ (F.args_enumerate_next_1 _))))
  exact enuItem he hit hl hx hne fun h' a b c d k => wpAny_pure (hQ h' a b c d k)
theorem enuStop {old : Value} {Q : Option Value → Shared → Prop} (hh : A.handled = none) (he : EnuO s.heap e it i old .none) (hit : SIt s.heap t it l i) (hl : SOb s.heap t l items) (hx : items[i]? = none)
    (hQ : ∀ h', (∀ b o, b ≠ it → s.heap.get? b = some o → h'.get? b = some o) → Q none { s with heap := h' }) : wpAny (model prog w) A (pyNext (.ref e)) Q E s := by
  have hT : s.TypeIs (.ref e) "enumerate" := ⟨_, he, rfl⟩
  unfold pyNext
  refine wpAny_bind (wpAny_attempt (wpAny_callSpecial?_slot (name := Str.ofString "__next__") hT F.slot_enumerate_next (wpAny_call_entry F.slot_enumerate_next hT F.entry_enumerate_next ?_ (F.args_enumerate_next_1 _))))
  refine (show wpAny _ _ (field (.ref e) 2 >>= _) _ _ _ from wpAny_bind (wpAny_field he rfl (x := .ref it) rfl ?_))
  refine wpAny_bind (nextE hh hit hl hx fun h' e' k ho => ?_)
  obtain ⟨o, ho, hc⟩ := ho
  exact wpAny_bind (wpAny_isInstance (T := "StopIteration") (b := true) ⟨o, ho, hc⟩ isSubtype_stop (wpAny_pure (hQ _ k)))
theorem letGoE {elts : List Expr} {x1 : Nat} {pos : Pos} {T : Addr} {j : Int} {old : Value} {Q : Unit → Shared → Prop} (he : EnuO s.heap e it j old (rawInt T)) (hQ : ∀ h', EnuO h' e it j old .none → Heap.SameBut e s.heap h' → Q () { s with heap := h' }) :
    wpAny (model prog w) A (letOwnedTupleGo (.Tuple elts x1 pos) (.ref e) (.ref T)) Q E s := by
  unfold letOwnedTupleGo
  refine wpAny_bind (wpAny_load he ?_)
  refine (show wpAny _ _ (if ((["enumerate", "zip", "dict_itemiterator", "dict_reverseitemiterator", "odict_iterator", "itertools.zip_longest", "itertools.pairwise"] : List String).contains "enumerate" && ((#[rawInt T, .bool false, .ref it, rawInt j, .none, old] : Array Value)[0]? == some (rawInt T))) = true then _ else _) Q E s from ?_)
  rw [if_pos (by simp)]
  refine wpAny_bind (wpAny_rule ?_)
  exact (show wpAny _ _ (setField (.ref e) 0 .none) Q E s from wpAny_setField_rec he (by simp) fun h' a b => hQ h' a b)
theorem iterE {j : Int} {old f0 : Value} {Q : Value → Shared → Prop} (he : EnuO s.heap e it j old f0) (h : Q (.ref e) s) : wpAny (model prog w) A (pyIter (.ref e)) Q E s := by
  have hT : s.TypeIs (.ref e) "enumerate" := ⟨_, he, rfl⟩
  refine wpAny_pyIter_slot hT F.slot_enumerate_iter (wpAny_call_entry F.slot_enumerate_iter hT F.entry_enumerate_iter ?_ (F.args_enumerate_iter_1 _))
  exact (show wpAny _ _ (ret (.ref e)) _ _ s from wpAny_pure ⟨_, rfl, "enumerate", _, hT, F.slot_enumerate_next.lookup, h⟩)
end
theorem enuNew (t : Bool) (l : Nat) (items : Array Value) :
    Meets (Builtin.«enumerate.__new__» ⟨[.type "enumerate", .ref l], []⟩) (fun _ R s => SOb s.heap t l items ∧
      R (.ok (.ret (.ref (s.heap.push (itO t l)).objs.size))) { s with heap := (s.heap.push (itO t l)).push { cls := .type "enumerate", data := .fields #[.none, .bool false, .ref s.heap.objs.size, rawInt 0, .none, .none] } }) :=
  .of_wp fun prog w A R s h => by
    obtain ⟨hp, g, d, tk, os⟩ := s
    obtain ⟨hl, h⟩ := h
    have hsub := sub_enumerate
    have b1 : SOb (Shared.heap ⟨hp, g, d, tk, os⟩) t l items := hl
    wp_walk
    refine wpAny_stack_any fun st => wpAny_pure ?_
    split
    · rename_i c _ _ _ _ _
      cases (c == Value.type "enumerate")
      · wp_walk using iterS b1
        exact ⟨_, rfl, h⟩
      · wp_walk using iterS b1
        exact ⟨_, rfl, h⟩
    · wp_walk using iterS b1
      exact ⟨_, rfl, h⟩
section
variable {prog : Program} {w : World} {A : Around} {E : Value → Shared → Prop} {s : Shared} {t : Bool} {l : Nat} {items : Array Value}
theorem callEnu {Q : Value → Shared → Prop} (hl : SOb s.heap t l items)
    (h : ∀ h', EnuO h' (s.heap.objs.size + 1) s.heap.objs.size 0 .none .none → SIt h' t s.heap.objs.size l 0 → h'.objs.size = s.heap.objs.size + 2 → (∀ b o, s.heap.get? b = some o → h'.get? b = some o) → Q (.ref (s.heap.objs.size + 1)) { s with heap := h' }) :
    wpAny (model prog w) A (call (.type "enumerate") [.ref l]) Q E s := by
  refine callType_new F.called_enumerate (by decide) (F.typeCall_enumerate_1 _) (F.newCall_enumerate_1 _) (fun obj => F.args_object_init_2 obj _) F.entry_enumerate_new (enuNew t l items) ⟨hl, ?_⟩
  have hz : (s.heap.push (itO t l)).objs.size = s.heap.objs.size + 1 := Heap.size_push ..
  have up : ∀ {h : Heap} {o u : Obj} {b : Addr}, h.get? b = some u → (h.push o).get? b = some u := fun q => Heap.get?_push_of_some _ q
  have he : EnuO ((s.heap.push (itO t l)).push { cls := .type "enumerate", data := .fields #[.none, .bool false, .ref s.heap.objs.size, rawInt 0, .none, .none] }) (s.heap.objs.size + 1) s.heap.objs.size 0 .none .none := by
    rw [EnuO, ← hz]
    exact Heap.get?_push_size _ rfl
  show _ ∧ _
  rw [hz]
  exact ⟨⟨_, he, rfl⟩, h _ he (SIt.new (up (Heap.get?_push_size _ rfl))) (by rw [Heap.size_push, hz]) fun b o q => up (up q)⟩
end
/-- what enumerate walks -/
def Jen (K : PySem.W.Frag) (t : Bool) (l : Nat) : L2.It :=
  ⟨fun i H => ∃ (xs : List V) (x : V), Sq K H t l xs ∧ xs[i]? = some x,
    fun i H r H' => ∃ (T : Addr) (x : V), r = .ref T ∧ H T = none ∧ H' = upd H T (.tup [.int i, x]) ∧ ∀ us, Sq K H t l us → us[i]? = some x,
    fun i H => ∃ xs : List V, Sq K H t l xs ∧ xs.length ≤ i⟩
theorem turnE {P : Program} {w : World} {K : PySem.W.Frag} {elts : List Expr} {kk : Nat} {tpos : Pos} (n l : Nat) (t : Bool) (hl : l < n) :
    Turn P w K (.Tuple elts kk tpos) (Jen K t l) [n, n + 1] (n + 1) (fun i h => (∃ old, EnuO h (n + 1) n i old .none) ∧ SIt h t n l i) where
  mem := by simp
  obj := fun i h D b hb => by
    obtain ⟨⟨old, de⟩, d1⟩ := D
    have hb' : b = n ∨ b = n + 1 := by simpa using hb
    rcases hb' with rfl | rfl
    · exact d1.obj
    · exact ⟨_, de, fun v z => nomatch z⟩
  keep := fun i h h' D k => ⟨(let ⟨old, q⟩ := D.1; ⟨old, k (n + 1) (by simp) _ q⟩), D.2.at fun o q => k n (by simp) o q⟩
  item := by
    intro X hP hw hK hc i pins s σ H E I hf D hg
    subst hP hw hK
    obtain ⟨xs, x, q0, g0⟩ := hg
    obtain ⟨is0, rv0, p0⟩ := sq_ob I q0
    obtain ⟨u0, hu0, ru0⟩ := rv0.get g0
    obtain ⟨⟨old, de⟩, d1⟩ := D
    refine enuNext de d1 p0 (by simpa using hu0) (by omega) fun h' az ai0 aT asz ak => ?_
    refine ⟨_, rfl, ?_⟩
    refine letGoE (s := { s with heap := h', toks := s.toks + 1 }) az fun h2 bz sb => ?_
    have hzl : n + 1 < s.heap.objs.size := Heap.lt_size de
    have hnl : n < s.heap.objs.size := d1.lt
    have k2 : ∀ (b : Nat) o, b ≠ n + 1 → h'.get? b = some o → h2.get? b = some o := fun b o q e => sb.extBut b o q e
    have T2 : TupO h2 s.heap.objs.size #[.int i s.toks, u0] := k2 _ _ (Nat.ne_of_gt hzl) aT
    have new : ObjOk X.prog X.w (upd H s.heap.objs.size (.tup [.int i, x])) h2 s.heap.objs.size (.tup [.int i, x]) :=
      ⟨by show 2 ≤ sizeLine; decide, [.int i s.toks, u0], .cons ⟨_, rfl⟩ (.cons ru0 .nil), ⟨_, T2, rfl, _, rfl⟩⟩
    have I1 : L2.Inv X pins σ (upd H s.heap.objs.size (.tup [.int i, x])) { s with heap := h2, toks := s.toks + 1 } :=
      I.turnedNew (t' := s.toks + 1) (ch := [n, n + 1]) (fun b o hb q => k2 b o (fun z => hb (by simp [z])) (ak b o (fun z => hb (by simp [z])) (fun z => hb (by simp [z])) q)) hf (Nat.le_refl _) new
    refine ⟨.ref s.heap.objs.size, _, I1, rfl, ⟨_, x, rfl, I.hok.fresh (Nat.le_refl _), rfl, fun us hus => by rw [sq_inj I hus q0]; exact g0⟩, ⟨⟨_, bz⟩, ai0.at fun o q => k2 _ o (by omega) q⟩, fun b hb => ?_⟩
    have hlt : b < s.heap.objs.size := by
      have hb' : b = n ∨ b = n + 1 := by simpa using hb
      rcases hb' with rfl | rfl
      · exact hnl
      · exact hzl
    rw [upd_ne (Nat.ne_of_lt hlt)]
    exact (hf b hb).1
  done := by
    intro X hP hw hK hc i pins s σ H E I hf D hg
    subst hP hw hK
    obtain ⟨xs, q0, hend⟩ := hg
    obtain ⟨is0, rv0, p0⟩ := sq_ob I q0
    have e0 := rv0.length
    obtain ⟨⟨old, de⟩, d1⟩ := D
    exact enuStop (I.ok.hd hc) de d1 p0 (by simp; omega) fun h' ak => ⟨rfl, I.turnedL (t' := s.toks) (ch := [n, n + 1]) (fun b o hb q => ak b o (fun z => hb (by simp [z])) q) hf⟩
  self := fun A i s Q E D h => (let ⟨old, q⟩ := D.1; iterE q h)
end DL


set_option Elab.async false
set_option linter.all false
set_option maxRecDepth 100000
set_option maxHeartbeats 2000000
/-! DL10: frames again (rebasing), targets, what a def promises, the static checks. -/
namespace DL
open PySem PySem.Spec PyProof.Rows L2

section
variable {K : PySem.W.Frag} {xo : XO} {B : FB} {F F' H H' : Hp} {σ σ' : L2.St} {e e' : Env}
/-- a list is written: the tables stand -/
theorem tabs_lst {T : List (Addr × Str)} {H : Hp} {a : Addr} {vs vs' : List V} (ha : H a = some (.lst vs)) (t : LamX.Tabs T H) : LamX.Tabs T (upd H a (.lst vs')) := fun p hp => by
  obtain ⟨ps, h1, h2, h3⟩ := t p hp
  have ne : ∀ {b : Addr} {u : HO}, H b = some u → (∀ xs, u ≠ .lst xs) → upd H a (.lst vs') b = some u := fun {b u} e n => by
    have z : b ≠ a := fun w => by rw [w, ha] at e; exact n _ (Option.some.inj e).symm
    rw [upd_ne z]; exact e
  refine ⟨ps, ne h1 (fun xs e => nomatch e), h2, fun pos cv hc => ?_⟩
  obtain ⟨c, e1, e2⟩ := h3 pos cv hc
  exact ⟨c, e1, ne e2 (fun xs e => by unfold LamX.CodeO at e; cases e)⟩
/-- the ground as it stands now: all that is tracked but the lists of one's own is kept -/
def FB.now (B : FB) (F H : Hp) (σ : L2.St) (e : Env) : FB := ⟨H, F, fun a => ∃ (i : Nat) (p : Bool) (ds : List D), e[i]? = some (.own p ds) ∧ σ[i]? = some (some (.ref a)), B.pa⟩
theorem Rel.now (r : Rel K xo B F σ H e) : Rel K xo (B.now F H σ e) F σ H e where
  sub := r.sub
  sub0 := Same.refl _
  new := fun a q => .inl q
  hpa := fun a q => fun z => r.hpa a q (r.h0 z)
  keep := fun a o q _ _ => q
  tbk := fun a ps q => ⟨ps, q⟩
  tabs := r.tabs
  ob := fun a ⟨i, p, ds, h1, h2⟩ => by
    obtain ⟨a', vs, g1, g2, _⟩ := r.own i p ds h1
    rw [g1] at h2
    injection h2 with h2
    injection h2 with h2
    injection h2 with h2
    rw [← h2, g2]
    exact fun z => nomatch z
  len := r.len
  val := r.val
  own := fun i p ds q => by
    obtain ⟨a, vs, g1, g2, g3, g4, g5, g6⟩ := r.own i p ds q
    exact ⟨a, vs, g1, g2, g3, g4, .inl ⟨i, p, ds, q, g1⟩, g6⟩
  sep := r.sep
/-- .. and back again -/
theorem Rel.back (r : Rel K xo B F σ H e) (r' : Rel K xo (B.now F H σ e) F' σ' H' e') : Rel K xo B F' σ' H' e' where
  sub := r'.sub
  sub0 := r.sub0.trans r'.sub0
  new := fun a q => by
    rcases r'.new a q with z | z | ⟨⟨i, p, ds, h1, h2⟩, z⟩
    · exact r.new a z
    · exact .inr (.inl (r.h0 z))
    · obtain ⟨a', vs, g1, g2, g3, g4, g5, g6⟩ := r.own i p ds h1
      rw [g1] at h2
      injection h2 with h2
      injection h2 with h2
      injection h2 with h2
      subst h2
      rcases g5 with g5 | g5
      · exact .inr (.inr ⟨g5, z⟩)
      · exact .inr (.inl g5)
  hpa := r.hpa
  tbk := fun a ps q => by
    obtain ⟨ps', e⟩ := r.tbk a ps q
    exact r'.tbk a ps' e
  tabs := r'.tabs
  keep := fun a o q z t => by
    refine r'.keep a o (r.keep a o q z t) (fun hm => ?_) t
    obtain ⟨i, p, ds, h1, h2⟩ := hm
    obtain ⟨a', vs, g1, g2, g3, g4, g5, g6⟩ := r.own i p ds h1
    rw [g1] at h2
    injection h2 with h2
    injection h2 with h2
    injection h2 with h2
    subst h2
    rcases g5 with g5 | g5
    · exact z g5
    · rw [g5] at q; cases q
  ob := fun a hm => by
    by_cases z : (B.now F H σ e).M a
    · exact r'.ob a z
    · cases q : H a with
      | none => exact absurd q (r.ob a hm)
      | some o =>
        by_cases t : ∃ ps, o = .tbl ps
        · obtain ⟨ps, rfl⟩ := t
          obtain ⟨ps', e⟩ := r'.tbk a ps q
          rw [e]
          exact fun z => nomatch z
        · rw [r'.keep a o q z (fun ps e => t ⟨ps, e⟩)]
          exact fun z => nomatch z
  len := r'.len
  val := r'.val
  own := fun i p ds q => by
    obtain ⟨a, vs, g1, g2, g3, g4, g5, g6⟩ := r'.own i p ds q
    refine ⟨a, vs, g1, g2, g3, g4, ?_, g6⟩
    rcases g5 with ⟨j, p', ds', h1, h2⟩ | g5
    · obtain ⟨a', vs', k1, k2, k3, k4, k5, k6⟩ := r.own j p' ds' h1
      rw [k1] at h2
      injection h2 with h2
      injection h2 with h2
      injection h2 with h2
      rw [← h2]
      exact k5
    · exact .inr (r.h0 g5)
  sep := r'.sep

theorem getSet {α : Type} {l : List α} {i j : Nat} {x y : α} (h : (l.set i x)[j]? = some y) : (i = j ∧ y = x) ∨ (i ≠ j ∧ l[j]? = some y) := by
  by_cases z : i = j
  · subst z
    by_cases hl : i < l.length
    · rw [List.getElem?_set_self hl] at h
      exact .inl ⟨rfl, (Option.some.inj h).symm⟩
    · rw [List.getElem?_eq_none (by simpa using hl)] at h
      cases h
  · rw [List.getElem?_set_ne z] at h
    exact .inr ⟨z, h⟩
/-- a slot gets data -/
theorem Rel.setVal (r : Rel K xo B F σ H e) {i : Nat} {v : V} {d : D} (x : Den K xo F v d) : Rel K xo B F (σ.set i (some v)) H (e.set i (.val d)) where
  sub := r.sub
  sub0 := r.sub0
  new := r.new
  hpa := r.hpa
  keep := r.keep
  tbk := r.tbk
  tabs := r.tabs
  ob := r.ob
  len := by rw [List.length_set, List.length_set]; exact r.len
  val := fun j d' q => by
    rcases getSet q with ⟨rfl, z⟩ | ⟨z, q⟩
    · injection z with z
      subst z
      have hi : i < σ.length := by
        rw [r.len]
        have := (List.getElem?_eq_some_iff.mp q).1
        simpa using this
      exact ⟨v, List.getElem?_set_self hi, x⟩
    · obtain ⟨v', g1, g2⟩ := r.val j d' q
      exact ⟨v', by rw [List.getElem?_set_ne z]; exact g1, g2⟩
  own := fun j p ds q => by
    rcases getSet q with ⟨_, z⟩ | ⟨z, q⟩
    · cases z
    · obtain ⟨a, vs, g1, g2⟩ := r.own j p ds q
      exact ⟨a, vs, by rw [List.getElem?_set_ne z]; exact g1, g2⟩
  sep := fun j k a p q ds es h1 h2 h3 h4 => by
    rcases getSet h1 with ⟨_, z⟩ | ⟨z1, h1⟩
    · cases z
    · rcases getSet h2 with ⟨_, z⟩ | ⟨z2, h2⟩
      · cases z
      · rw [List.getElem?_set_ne z1] at h3
        rw [List.getElem?_set_ne z2] at h4
        exact r.sep j k a p q ds es h1 h2 h3 h4
/-- a slot gets a list of its own -/
theorem Rel.setOwn (r : Rel K xo B F σ H e) {i : Nat} {p : Addr} {vs : List V} {ds : List D} (hp : H p = some (.lst vs)) (hF : F p = none) (x : DenAll K xo F vs ds) (h0 : B.mine p)
    (ho : ∀ (j : Nat) pp es, e[j]? = some (.own pp es) → σ[j]? ≠ some (some (.ref p))) : Rel K xo B F (σ.set i (some (.ref p))) H (e.set i (.own false ds)) where
  sub := r.sub
  sub0 := r.sub0
  new := r.new
  hpa := r.hpa
  keep := r.keep
  tbk := r.tbk
  tabs := r.tabs
  ob := r.ob
  len := by rw [List.length_set, List.length_set]; exact r.len
  val := fun j d' q => by
    rcases getSet q with ⟨_, z⟩ | ⟨z, q⟩
    · cases z
    · obtain ⟨v', g1, g2⟩ := r.val j d' q
      exact ⟨v', by rw [List.getElem?_set_ne z]; exact g1, g2⟩
  own := fun j pp es q => by
    rcases getSet q with ⟨rfl, z⟩ | ⟨z, q⟩
    · injection z with z1 z2
      subst z1 z2
      have hi : i < σ.length := by
        rw [r.len]
        have := (List.getElem?_eq_some_iff.mp q).1
        simpa using this
      exact ⟨p, vs, List.getElem?_set_self hi, hp, hF, x, h0.elim .inr fun z => .inl z.1, (fun z => nomatch z), fun z => (h0.elim (fun y => absurd y (r.hpa p z)) fun y => absurd z y.2)⟩
    · obtain ⟨a, vs', g1, g2⟩ := r.own j pp es q
      exact ⟨a, vs', by rw [List.getElem?_set_ne z]; exact g1, g2⟩
  sep := fun j k a pj pk ds' es h1 h2 h3 h4 => by
    rcases getSet h1 with ⟨rfl, _⟩ | ⟨z1, h1⟩
    · rcases getSet h2 with ⟨e1, _⟩ | ⟨z2, h2⟩
      · exact e1
      · rw [List.getElem?_set_ne z2] at h4
        rcases getSet h3 with ⟨_, z⟩ | ⟨z, _⟩
        · injection z with z
          injection z with z
          subst z
          exact absurd h4 (ho k pk es h2)
        · exact absurd rfl z
    · rcases getSet h2 with ⟨rfl, _⟩ | ⟨z2, h2⟩
      · rw [List.getElem?_set_ne z1] at h3
        rcases getSet h4 with ⟨_, z⟩ | ⟨z, _⟩
        · injection z with z
          injection z with z
          subst z
          exact absurd h3 (ho j pj ds' h1)
        · exact absurd rfl z
      · rw [List.getElem?_set_ne z1] at h3
        rw [List.getElem?_set_ne z2] at h4
        exact r.sep j k a pj pk ds' es h1 h2 h3 h4
/-- a slot is forgotten -/
theorem Rel.forget (r : Rel K xo B F σ H e) (i : Nat) : Rel K xo B F σ H (e.set i .un) where
  sub := r.sub
  sub0 := r.sub0
  new := r.new
  hpa := r.hpa
  keep := r.keep
  tbk := r.tbk
  tabs := r.tabs
  ob := r.ob
  len := by rw [List.length_set]; exact r.len
  val := fun j d' q => by
    rcases getSet q with ⟨_, z⟩ | ⟨_, q⟩
    · cases z
    · exact r.val j d' q
  own := fun j pp es q => by
    rcases getSet q with ⟨_, z⟩ | ⟨_, q⟩
    · cases z
    · exact r.own j pp es q
  sep := fun j k a pj pk ds' es h1 h2 h3 h4 => by
    rcases getSet h1 with ⟨_, z⟩ | ⟨_, h1⟩
    · cases z
    · rcases getSet h2 with ⟨_, z⟩ | ⟨_, h2⟩
      · cases z
      · exact r.sep j k a pj pk ds' es h1 h2 h3 h4
/-- a list of one's own is written -/
theorem Rel.write (r : Rel K xo B F σ H e) {i : Nat} {p : Bool} {ds ds' : List D} {a : Addr} {vs' : List V} (q : e[i]? = some (.own p ds)) (ha : σ[i]? = some (some (.ref a))) (x : DenAll K xo F vs' ds') :
    Rel K xo B F σ (upd H a (.lst vs')) (e.set i (.own p ds')) := by
  obtain ⟨a', vs, g1, g2, g3, g4, g5, g6⟩ := r.own i p ds q
  have ea : a' = a := by
    rw [g1] at ha
    injection ha with ha
    injection ha with ha
    injection ha
  subst ea
  have hi : i < e.length := (List.getElem?_eq_some_iff.mp q).1
  refine ⟨fun b o z => ?_, r.sub0, r.new, r.hpa, fun b o z1 z2 z3 => ?_, fun b ps z => ?_, tabs_lst g2 r.tabs, fun b z => ?_, by rw [List.length_set]; exact r.len, fun j d z => ?_, fun j pp es z => ?_, fun j k b pj pk ds1 es h1 h2 h3 h4 => ?_⟩
  · have ne : b ≠ a' := fun w => by rw [w, g3] at z; cases z
    rw [upd_ne ne]; exact r.sub b o z
  · have ne : b ≠ a' := fun w => by
      subst w
      rcases g5 with g5 | g5
      · exact z2 g5
      · rw [g5] at z1; cases z1
    rw [upd_ne ne]; exact r.keep b o z1 z2 z3
  · obtain ⟨ps', e⟩ := r.tbk b ps z
    have ne : b ≠ a' := fun w => by rw [w, g2] at e; cases e
    exact ⟨ps', by rw [upd_ne ne]; exact e⟩
  · by_cases w : b = a'
    · subst w; rw [upd_same]; exact fun w => nomatch w
    · rw [upd_ne w]; exact r.ob b z
  · rcases getSet z with ⟨_, w⟩ | ⟨_, z⟩
    · cases w
    · exact r.val j d z
  · rcases getSet z with ⟨rfl, w⟩ | ⟨w, z⟩
    · injection w with w1 w2
      subst w1 w2
      exact ⟨a', vs', g1, upd_same, g3, x, g5, g6⟩
    · obtain ⟨b, us, k1, k2, k3, k4, k5, k6⟩ := r.own j pp es z
      have ne : b ≠ a' := fun y => by
        subst y
        exact w (r.sep i j b p pp ds es q z ha k1)
      exact ⟨b, us, k1, by rw [upd_ne ne]; exact k2, k3, k4, k5, k6⟩
  · have old : ∀ {j : Nat} {pj : Bool} {ds1 : List D}, (e.set i (.own p ds'))[j]? = some (.own pj ds1) → ∃ pp es, e[j]? = some (.own pp es) := fun {j pj ds1} h => by
      rcases getSet h with ⟨rfl, _⟩ | ⟨_, h⟩
      · exact ⟨p, ds, q⟩
      · exact ⟨_, _, h⟩
    obtain ⟨p1, e1, q1⟩ := old h1
    obtain ⟨p2, e2, q2⟩ := old h2
    exact r.sep j k b p1 p2 e1 e2 q1 q2 h3 h4
end

/-- behind a def's call: what stood before is kept, but the list handed in as its own -/
structure Fin' (K : PySem.W.Frag) (xo : XO) (F H : Hp) (oa : Option Addr) (o' : List D) (F' H' : Hp) : Prop where
  subF : Same F F'
  sub : Same F' H'
  new : ∀ a, F' a ≠ none → F a ≠ none ∨ H a = none
  keep : ∀ a o, H a = some o → oa ≠ some a → (∀ ps, o ≠ .tbl ps) → H' a = some o
  tbk : ∀ a ps, H a = some (.tbl ps) → ∃ ps', H' a = some (.tbl ps')
  tabs : LamX.Tabs xo.T H'
  own : ∀ a, oa = some a → ∃ ws, H' a = some (.lst ws) ∧ F' a = none ∧ DenAll K xo F' ws o'
/-- what a def promises -/
def PostF (K : PySem.W.Frag) (xo : XO) (mg : Str → Option Value) (F H : Hp) (oa : Option Addr) (r : FR) (Q : VK) (E : XK) : Prop := match r with
  | .ret (.d d) o' => ∀ v H' F', Fin' K xo F H oa o' F' H' → Den K xo F' v d → Q v H'
  | .ret (.fr ds) o' => ∀ p vs H' F', Fin' K xo F H oa o' F' H' → H' p = some (.lst vs) → F' p = none → DenAll K xo F' vs ds → H p = none → Q (.ref p) H'
  | .exn c ps o' => ∀ cls dx H' F', Fin' K xo F H oa o' F' H' → ExW K xo mg c ps cls dx H' F' → E cls dx H'
  | .bad => False
def spFn (K : PySem.W.Frag) (xo : XO) (mg : Str → Option Value) (f : Fn) : Sp := fun vs H Q E => vs.length = f.np ∧ LamX.Tabs xo.T H ∧ ∃ F, Same F H ∧
  ((f.own = false ∧ ∃ ds, DenAll K xo F vs ds ∧ PostF K xo mg F H none (f.run [] ds) Q E) ∨
   (f.own = true ∧ ∃ a us ws o ds, vs = .ref a :: us ∧ H a = some (.lst ws) ∧ F a = none ∧ DenAll K xo F ws o ∧ DenAll K xo F us ds ∧ PostF K xo mg F H (some a) (f.run o ds) Q E))

section
variable {K : PySem.W.Frag} {xo : XO} {mg : Str → Option Value} {W : WX} {B : FB} {F F' H H' : Hp} {σ : L2.St} {e : Env}
theorem Rel.called (r : Rel K xo B F σ H e) {o' : List D} (x : Fin' K xo F H none o' F' H') : Rel K xo B F' σ H' e where
  sub := x.sub
  sub0 := r.sub0.trans x.subF
  new := fun a q => by
    rcases x.new a q with z | z
    · exact r.new a z
    · exact .inr (.inl (r.h0 z))
  hpa := r.hpa
  keep := fun a o q z t => x.keep a o (r.keep a o q z t) (fun w => nomatch w) t
  tbk := fun a ps q => by
    obtain ⟨ps', e⟩ := r.tbk a ps q
    exact x.tbk a ps' e
  tabs := x.tabs
  ob := fun a z => by
    cases q : H a with
    | none => exact absurd q (r.ob a z)
    | some o =>
      by_cases t : ∃ ps, o = .tbl ps
      · obtain ⟨ps, rfl⟩ := t
        obtain ⟨ps', e⟩ := x.tbk a ps q
        rw [e]; exact fun w => nomatch w
      · rw [x.keep a o q (fun w => nomatch w) (fun ps e => t ⟨ps, e⟩)]; exact fun w => nomatch w
  len := r.len
  val := fun i d q => by
    obtain ⟨v, g1, g2⟩ := r.val i d q
    exact ⟨v, g1, g2.mono x.subF⟩
  own := fun i p ds q => by
    obtain ⟨a, vs, g1, g2, g3, g4, g5⟩ := r.own i p ds q
    refine ⟨a, vs, g1, x.keep a _ g2 (fun w => nomatch w) (fun ps e => nomatch e), ?_, g4.mono x.subF, g5⟩
    cases z : F' a with
    | none => rfl
    | some o =>
      rcases x.new a (by rw [z]; exact fun w => nomatch w) with w | w
      · exact absurd g3 w
      · rw [g2] at w; cases w
  sep := r.sep
theorem Rel.calledO (r : Rel K xo B F σ H e) {i : Nat} {p : Bool} {o o' : List D} {a : Addr} (q : e[i]? = some (.own p o)) (ha : σ[i]? = some (some (.ref a))) (x : Fin' K xo F H (some a) o' F' H') : Rel K xo B F' σ H' (e.set i (.own p o')) := by
  obtain ⟨a', vs, g1, g2, g3, g4, g5, g6⟩ := r.own i p o q
  have ea : a' = a := by
    rw [g1] at ha
    injection ha with ha
    injection ha with ha
    injection ha
  subst ea
  obtain ⟨ws, k1, k2, k3⟩ := x.own a' rfl
  refine ⟨x.sub, r.sub0.trans x.subF, fun b z => ?_, r.hpa, fun b u z1 z2 z3 => ?_, fun b ps z => ?_, x.tabs, fun b z => ?_, by rw [List.length_set]; exact r.len, fun j d z => ?_, fun j pp es z => ?_, fun j k b pj pk ds1 es h1 h2 h3 h4 => ?_⟩
  · rcases x.new b z with w | w
    · exact r.new b w
    · exact .inr (.inl (r.h0 w))
  · refine x.keep b u (r.keep b u z1 z2 z3) (fun w => ?_) z3
    injection w with w
    subst w
    rcases g5 with g5 | g5
    · exact z2 g5
    · rw [g5] at z1; cases z1
  · obtain ⟨ps', e⟩ := r.tbk b ps z
    exact x.tbk b ps' e
  · by_cases w : a' = b
    · subst w; rw [k1]; exact fun w => nomatch w
    · cases y : H b with
      | none => exact absurd y (r.ob b z)
      | some u =>
        by_cases t : ∃ ps, u = .tbl ps
        · obtain ⟨ps, rfl⟩ := t
          obtain ⟨ps', e⟩ := x.tbk b ps y
          rw [e]; exact fun w => nomatch w
        · rw [x.keep b u y (fun v => by injection v with v; exact w v) (fun ps e => t ⟨ps, e⟩)]; exact fun w => nomatch w
  · rcases getSet z with ⟨_, w⟩ | ⟨_, z⟩
    · cases w
    · obtain ⟨v, m1, m2⟩ := r.val j d z
      exact ⟨v, m1, m2.mono x.subF⟩
  · rcases getSet z with ⟨rfl, w⟩ | ⟨w, z⟩
    · injection w with w1 w2
      subst w1 w2
      exact ⟨a', ws, g1, k1, k2, k3, g5, g6⟩
    · obtain ⟨b, us, m1, m2, m3, m4, m5⟩ := r.own j pp es z
      have ne : a' ≠ b := fun y => by
        subst y
        exact w (r.sep i j a' p pp o es q z ha m1)
      refine ⟨b, us, m1, x.keep b _ m2 (fun v => by injection v with v; exact ne v) (fun ps e => nomatch e), ?_, m4.mono x.subF, m5⟩
      cases y : F' b with
      | none => rfl
      | some u =>
        rcases x.new b (by rw [y]; exact fun w => nomatch w) with v | v
        · exact absurd m3 v
        · rw [m2] at v; cases v
  · have old : ∀ {j : Nat} {pj : Bool} {ds1 : List D}, (e.set i (.own p o'))[j]? = some (.own pj ds1) → ∃ pp es, e[j]? = some (.own pp es) := fun {j pj ds1} h => by
      rcases getSet h with ⟨rfl, _⟩ | ⟨_, h⟩
      · exact ⟨p, o, q⟩
      · exact ⟨_, _, h⟩
    obtain ⟨p1, e1, q1⟩ := old h1
    obtain ⟨p2, e2, q2⟩ := old h2
    exact r.sep j k b p1 p2 e1 e2 q1 q2 h3 h4
end
end DL


set_option Elab.async false
set_option linter.all false
set_option maxRecDepth 100000
set_option maxHeartbeats 2000000
/-! DL11: what a loop walks (lists, tuples, ranges, reversed, zip, enumerate), by data. -/
namespace DL
open PySem PySem.Spec PyProof.Rows L2

/-- J walks these data, over a frozen part F -/
def Wk (K : PySem.W.Frag) (xo : XO) (J : L2.It) (F : Hp) (ds : List D) : Prop := ∀ {B : FB} {F1 : Hp} {σ : L2.St} {H : Hp} {e : Env}, Same F F1 → Rel K xo B F1 σ H e →
  (∀ (i : Nat) d, ds[i]? = some d → J.go i H ∧ ∀ x H', J.yld i H x H' → ∃ F', Same F1 F' ∧ Rel K xo B F' σ H' e ∧ Den K xo F' x d) ∧ J.stop ds.length H

section
variable {K : PySem.W.Frag} {xo : XO} {F H : Hp}
theorem sq_mono {H H' : Hp} {t : Bool} {a : Addr} {xs : List V} (s : Same H H') (h : Sq K H t a xs) : Sq K H' t a xs := by
  cases t with
  | true => exact sqt_mono s h
  | false => exact s.seq h
theorem den_items {v : V} {d : D} {ds : List D} (h : Den K xo F v d) (e : items? d = some ds) : ∃ (t : Bool) (a : Addr) (vs : List V), v = .ref a ∧ Sq K F t a vs ∧ DenAll K xo F vs ds := by
  cases h with
  | lst h r =>
    have e' := Option.some.inj e
    subst e'
    exact ⟨false, _, _, rfl, .inl (.inl h), r⟩
  | tup h r =>
    have e' := Option.some.inj e
    subst e'
    exact ⟨true, _, _, rfl, h, r⟩
  | non => cases e
  | bl _ => cases e
  | int _ => cases e
  | str _ => cases e
  | scr _ _ => cases e
  | exc0 _ _ => cases e
  | exc1 _ _ _ _ => cases e
def Its (K : PySem.W.Frag) (t : Bool) (a : Addr) : L2.It := if t = true then Itt K a else Itl K a
theorem wk_seq {t : Bool} {a : Addr} {vs : List V} {ds : List D} (h : Sq K F t a vs) (r : DenAll K xo F vs ds) : Wk K xo (Its K t a) F ds := by
  intro B F1 σ H e s R
  have hq : Sq K H t a vs := sq_mono (s.trans R.sub) h
  refine ⟨fun i d hd => ?_, ?_⟩
  · obtain ⟨v, hv, dv⟩ := r.get hd
    cases t with
    | true => exact ⟨⟨vs, v, hq, hv⟩, fun x H' ⟨e1, e2⟩ => by
        have := e2 vs hq
        rw [hv] at this
        cases this
        subst e1
        exact ⟨F1, Same.refl _, R, dv.mono s⟩⟩
    | false => exact ⟨⟨vs, v, hq, hv⟩, fun x H' ⟨e1, e2⟩ => by
        have := e2 vs hq
        rw [hv] at this
        cases this
        subst e1
        exact ⟨F1, Same.refl _, R, dv.mono s⟩⟩
  · cases t with
    | true => exact ⟨vs, hq, Nat.le_of_eq r.length⟩
    | false => exact ⟨vs, hq, Nat.le_of_eq r.length⟩
theorem wk_rev {t : Bool} {a : Addr} {vs : List V} {ds : List D} (h : Sq K F t a vs) (r : DenAll K xo F vs ds) : Wk K xo (if t = true then RT.ItvT K a vs.length else Itv K a vs.length) F ds.reverse := by
  intro B F1 σ H e s R
  have hq : Sq K H t a vs := sq_mono (s.trans R.sub) h
  have hl := r.length
  refine ⟨fun i d hd => ?_, ?_⟩
  · have hi : i < ds.length := by
      have := (List.getElem?_eq_some_iff.mp hd).1
      simpa using this
    have hd' : ds[vs.length - 1 - i]? = some d := by
      rw [List.getElem?_reverse hi] at hd
      rw [hl]
      exact hd
    obtain ⟨v, hv, dv⟩ := r.get hd'
    cases t with
    | true => exact ⟨⟨by omega, vs, v, hq, hv⟩, fun x H' ⟨e1, e2⟩ => by
        have := e2 vs hq
        rw [hv] at this
        cases this
        subst e1
        exact ⟨F1, Same.refl _, R, dv.mono s⟩⟩
    | false => exact ⟨⟨by omega, vs, v, hq, hv⟩, fun x H' ⟨e1, e2⟩ => by
        have := e2 vs hq
        rw [hv] at this
        cases this
        subst e1
        exact ⟨F1, Same.refl _, R, dv.mono s⟩⟩
  · rw [List.length_reverse, ← hl]
    cases t with
    | true => exact Nat.le_refl _
    | false => exact Nat.le_refl _
theorem rngI_len (a : Int) : ∀ n : Nat, (rngI a n).length = n
  | 0 => rfl
  | n + 1 => congrArg (· + 1) (rngI_len (a + 1) n)
theorem rngI_get (a : Int) : ∀ (n i : Nat) (d : D), (rngI a n)[i]? = some d → i < n ∧ d = .int (a + i)
  | 0, i, d, h => by simp [rngI] at h
  | n + 1, 0, d, h => by
    have h' := Option.some.inj (show some _ = some d from h)
    exact ⟨Nat.succ_pos _, by rw [← h']; simp⟩
  | n + 1, i + 1, d, h => by
    obtain ⟨h1, h2⟩ := rngI_get (a + 1) n i d (by simpa [rngI] using h)
    refine ⟨Nat.succ_lt_succ h1, ?_⟩
    rw [h2]
    congr 1
    push_cast
    omega
theorem wk_rng (lo : Int) (n : Nat) : Wk K xo (Itr lo n) F (rngI lo n) := by
  intro B F1 σ H e s R
  refine ⟨fun i d hd => ?_, ?_⟩
  · obtain ⟨h1, h2⟩ := rngI_get lo n i d hd
    refine ⟨h1, fun x H' ⟨e1, e2⟩ => ?_⟩
    subst e1 e2 h2
    exact ⟨F1, Same.refl _, R, .int _⟩
  · rw [rngI_len]
    exact Nat.le_refl _
theorem wk_z2 {st t1 t2 : Bool} {a b : Addr} {vs us : List V} {ds es : List D} (h1 : Sq K F t1 a vs) (h2 : Sq K F t2 b us) (r1 : DenAll K xo F vs ds) (r2 : DenAll K xo F us es) (hs : st = true → ds.length = es.length) :
    Wk K xo (Jz2 K st t1 t2 a b) F (zipAll [ds, es]) := by
  intro B F1 σ H e s R
  have s2 := s.trans R.sub
  have q1 : Sq K H t1 a vs := sq_mono s2 h1
  have q2 : Sq K H t2 b us := sq_mono s2 h2
  have l1 := r1.length
  have l2 := r2.length
  refine ⟨fun i d hd => ?_, ?_⟩
  · have hd' : ((ds.zip es).map fun p => PyData.tuple [p.1, p.2])[i]? = some d := hd
    rw [List.getElem?_map] at hd'
    cases hz : (ds.zip es)[i]? with
    | none => rw [hz] at hd'; cases hd'
    | some p =>
      rw [hz] at hd'
      have hd2 := Option.some.inj hd'
      subst hd2
      obtain ⟨g1, g2⟩ := List.getElem?_zip_eq_some.mp hz
      obtain ⟨v, hv, dv⟩ := r1.get g1
      obtain ⟨u, hu, du⟩ := r2.get g2
      refine ⟨⟨vs, us, v, u, q1, hv, q2, hu⟩, ?_⟩
      rintro x H' ⟨T, v', u', e1, hT, e2, k1, k2⟩
      have := k1 vs q1
      rw [hv] at this
      cases this
      have := k2 us q2
      rw [hu] at this
      cases this
      subst e1 e2
      have sf := same_upd (o := HO.tup [v, u]) (R.f0 hT)
      exact ⟨_, sf, R.laid hT, .tup (.inl (.inl upd_same)) (.cons ((dv.mono s).mono sf) (.cons ((du.mono s).mono sf) .nil))⟩
  · have hlen : (zipAll [ds, es]).length = min ds.length es.length := by
      show ((ds.zip es).map _).length = _
      rw [List.length_map, List.length_zip]
    rw [hlen]
    refine ⟨vs, us, q1, q2, ?_⟩
    cases st with
    | true =>
      have := hs rfl
      exact ⟨by omega, by omega⟩
    | false =>
      show _ ∨ _
      omega
theorem wk_z3 {st t1 t2 t3 : Bool} {a b c : Addr} {vs us ws : List V} {ds es fs : List D} (h1 : Sq K F t1 a vs) (h2 : Sq K F t2 b us) (h3 : Sq K F t3 c ws) (r1 : DenAll K xo F vs ds) (r2 : DenAll K xo F us es) (r3 : DenAll K xo F ws fs)
    (hs : st = true → ds.length = es.length ∧ ds.length = fs.length) : Wk K xo (Jz3 K st t1 t2 t3 a b c) F (zipAll [ds, es, fs]) := by
  intro B F1 σ H e s R
  have s2 := s.trans R.sub
  have q1 : Sq K H t1 a vs := sq_mono s2 h1
  have q2 : Sq K H t2 b us := sq_mono s2 h2
  have q3 : Sq K H t3 c ws := sq_mono s2 h3
  have l1 := r1.length
  have l2 := r2.length
  have l3 := r3.length
  refine ⟨fun i d hd => ?_, ?_⟩
  · have hd' : ((ds.zip (es.zip fs)).map fun p => PyData.tuple [p.1, p.2.1, p.2.2])[i]? = some d := hd
    rw [List.getElem?_map] at hd'
    cases hz : (ds.zip (es.zip fs))[i]? with
    | none => rw [hz] at hd'; cases hd'
    | some p =>
      rw [hz] at hd'
      have hd2 := Option.some.inj hd'
      subst hd2
      obtain ⟨g1, g23⟩ := List.getElem?_zip_eq_some.mp hz
      obtain ⟨g2, g3⟩ := List.getElem?_zip_eq_some.mp g23
      obtain ⟨v, hv, dv⟩ := r1.get g1
      obtain ⟨u, hu, du⟩ := r2.get g2
      obtain ⟨w, hw, dw⟩ := r3.get g3
      refine ⟨⟨vs, us, ws, v, u, w, q1, hv, q2, hu, q3, hw⟩, ?_⟩
      rintro x H' ⟨T, v', u', w', e1, hT, e2, k1, k2, k3⟩
      have := k1 vs q1
      rw [hv] at this
      cases this
      have := k2 us q2
      rw [hu] at this
      cases this
      have := k3 ws q3
      rw [hw] at this
      cases this
      subst e1 e2
      have sf := same_upd (o := HO.tup [v, u, w]) (R.f0 hT)
      exact ⟨_, sf, R.laid hT, .tup (.inl (.inl upd_same)) (.cons ((dv.mono s).mono sf) (.cons ((du.mono s).mono sf) (.cons ((dw.mono s).mono sf) .nil)))⟩
  · have hlen : (zipAll [ds, es, fs]).length = min ds.length (min es.length fs.length) := by
      show ((ds.zip (es.zip fs)).map _).length = _
      rw [List.length_map, List.length_zip, List.length_zip]
    rw [hlen]
    refine ⟨vs, us, ws, q1, q2, q3, ?_⟩
    cases st with
    | true =>
      have := hs rfl
      exact ⟨by omega, by omega, by omega⟩
    | false =>
      show _ ∨ _ ∨ _
      omega
theorem enumD_len : ∀ (ds : List D) (n : Nat), (enumD n ds).length = ds.length
  | [], _ => rfl
  | _ :: r, n => congrArg (· + 1) (enumD_len r (n + 1))
theorem enumD_get : ∀ (ds : List D) (n i : Nat) (d : D), (enumD n ds)[i]? = some d → ∃ x, ds[i]? = some x ∧ d = .tuple [.int ((n + i : Nat) : Int), x]
  | [], n, i, d, h => by simp [enumD] at h
  | x :: r, n, 0, d, h => by
    have h' := Option.some.inj (show some _ = some d from h)
    exact ⟨x, rfl, by rw [← h']; simp⟩
  | x :: r, n, i + 1, d, h => by
    obtain ⟨y, h1, h2⟩ := enumD_get r (n + 1) i d (by simpa [enumD] using h)
    refine ⟨y, by simpa using h1, ?_⟩
    rw [h2]
    congr 3
    omega
theorem wk_en {t : Bool} {a : Addr} {vs : List V} {ds : List D} (h : Sq K F t a vs) (r : DenAll K xo F vs ds) : Wk K xo (Jen K t a) F (enumD 0 ds) := by
  intro B F1 σ H e s R
  have hq : Sq K H t a vs := sq_mono (s.trans R.sub) h
  refine ⟨fun i d hd => ?_, ?_⟩
  · obtain ⟨y, hy, ed⟩ := enumD_get ds 0 i d hd
    obtain ⟨v, hv, dv⟩ := r.get hy
    subst ed
    refine ⟨⟨vs, v, hq, hv⟩, ?_⟩
    rintro x H' ⟨T, v', e1, hT, e2, k1⟩
    have := k1 vs hq
    rw [hv] at this
    cases this
    subst e1 e2
    have sf := same_upd (o := HO.tup [.int i, v]) (R.f0 hT)
    refine ⟨_, sf, R.laid hT, .tup (.inl (.inl upd_same)) (.cons ?_ (.cons ((dv.mono s).mono sf) .nil))⟩
    rw [Nat.zero_add]
    exact .int _
  · rw [enumD_len]
    exact ⟨vs, hq, Nat.le_of_eq r.length⟩
end

/-! ### the calls -/
section
variable {X : Cx}
theorem callWith_tyKw {M : Model} {A : Around} {E : Value → Shared → Prop} {s : Shared} {env : PySem.Env} {pos : Pos} {T : String} {args : List (Bool × Sem Value)} {kws : List (Option Str × Sem Value)} {Q : Value → Shared → Prop} (hp : args.any (·.1) = false) (hk : kws.any (·.1.isNone) = false)
    (h : wpAny M A (evalArgs (.type T) true args kws) (fun a s₁ => wpAny M A (PySem.call (.type T) a.pos a.kw) Q E s₁) E s) : wpAny M A (callWith pos (.type T) [] args kws) Q E s :=
  PySem.W.callWith_of (P := fun _ => True) (by rw [hp, hk]; rfl) (fun _ _ => ⟨.machine, .inr (.inl rfl), .now⟩) (wpAny_mono h (fun _ _ x => ⟨trivial, x⟩) fun _ _ x => x)
def kwE (st : Bool) (j : Nat) (p q : Pos) : List Keyword := if st = true then [⟨some "strict", .Constant (.bool true) j p, q⟩] else []
/-- zip(..) called, of items already there -/
theorem zip_call {pins : List (Addr × Obj)} {σ : L2.St} {H : Hp} {s : Shared} {e : Expr} {es : List Expr} {ta : TA} {p pos kp kq : Pos} {kj : Nat} {st : Bool} {Q : Value → Shared → Prop} {T : List V → Hp → Prop} (hg : Gl X "zip") (hm : X.mg "zip" = none) (ha : PA X (e :: es) ta)
    (hs : starEach (e :: es) X.env = (false, eval e X.env) :: starEach es X.env) (hpl : (backTo pos (starEach es X.env)).any (·.1) = false) (I : L2.Inv X pins σ H s) (h : ta σ H T)
    (k : ∀ (us : List Value) (vs : List V) (H1 : Hp) (s1 : Shared), L2.Inv X pins σ H1 s1 → Vals vs us → T vs H1 → wpAny (model X.prog X.w) X.A (PySem.call (.type "zip") us (kwS st)) Q X.xe s1) :
    wpAny (model X.prog X.w) X.A (eval (.Call (.Name "zip" p) (e :: es) (kwE st kj kp kq) pos) X.env) Q X.xe s := by
  refine wpAny_Call_Name_kw (ld_blt I hg hm PyProof.Rows.boot_zip ?_)
  cases st with
  | false =>
    exact PyProof.Rows.callWith_type1 (thn (ha.run pos pins s σ H _ I h) fun us s1 ⟨vs, H1, I1, r1, q1⟩ => k us vs H1 s1 I1 r1 q1) hs hpl
  | true =>
    have hk : PK X (kwE true kj kp kq) (tCons (tC (.bl true)) tNil) := pk_cons pe_bl pk_nil
    rw [show backTo pos (starEach (e :: es) X.env) = (false, eval e X.env) :: backTo pos (starEach es X.env) by rw [hs]; rfl]
    refine callWith_tyKw (env := X.env) (by show (false || _) = false; rw [hpl]; rfl) rfl ?_
    refine PyProof.Rows.evalArgs_kwB rfl ?_
    have h2 := ha.run pos pins s σ H _ I h
    rw [show backTo pos (starEach (e :: es) X.env) = (false, eval e X.env) :: backTo pos (starEach es X.env) by rw [hs]; rfl] at h2
    refine thn h2 fun us s1 ⟨vs, H1, I1, r1, q1⟩ => ?_
    refine thn (hk.run pos pins s1 σ H1 (fun zs H2 => zs = [.bl true] ∧ H2 = H1) I1 ⟨rfl, rfl⟩) fun ws s2 ⟨zs, H2, I2, r2, ez, eh⟩ => ?_
    subst ez eh
    cases r2 with
    | cons r rr =>
      cases rr
      cases r
      exact k us vs H2 s2 I2 r1 q1
end
end DL


set_option Elab.async false
set_option linter.all false
set_option maxRecDepth 100000
set_option maxHeartbeats 2000000
/-! DL12: for .. in zip(..), in enumerate(..). -/
namespace DL
open PySem PySem.Spec PyProof.Rows L2

section
variable {prog : Program} {w : World} {A : Around} {E : Value → Shared → Prop} {s : Shared}
theorem call_z2 {st t1 t2 : Bool} {a b : Nat} {xs ys : Array Value} {Q : Value → Shared → Prop} (o1 : SOb s.heap t1 a xs) (o2 : SOb s.heap t2 b ys)
    (h : ∀ h', Z2 h' s.heap.objs.size st t1 t2 a b 0 → (∀ c o, s.heap.get? c = some o → h'.get? c = some o) → Q (.ref (s.heap.objs.size + 4)) { s with heap := h' }) :
    wpAny (model prog w) A (call (.type "zip") [.ref a, .ref b] (kwS st)) Q E s := by
  refine callZip (zct2 st _ _) (zcn2 st _ _) (fun obj => zai st _ (.inl rfl)) (zipNew2 st t1 t2 a b xs ys) ⟨o1, o2, fun h' hz hti hto h1 h2 hsz hk => ?_⟩
  exact ⟨⟨_, hz, rfl⟩, h h' ⟨hz, hti, ⟨_, _, hto⟩, h1, h2⟩ hk⟩
theorem call_z3 {st t1 t2 t3 : Bool} {a b c : Nat} {xs ys zs : Array Value} {Q : Value → Shared → Prop} (o1 : SOb s.heap t1 a xs) (o2 : SOb s.heap t2 b ys) (o3 : SOb s.heap t3 c zs)
    (h : ∀ h', Z3 h' s.heap.objs.size st t1 t2 t3 a b c 0 → (∀ c o, s.heap.get? c = some o → h'.get? c = some o) → Q (.ref (s.heap.objs.size + 5)) { s with heap := h' }) :
    wpAny (model prog w) A (call (.type "zip") [.ref a, .ref b, .ref c] (kwS st)) Q E s := by
  refine callZip (zct3 st _ _ _) (zcn3 st _ _ _) (fun obj => zai st _ (.inr rfl)) (zipNew3 st t1 t2 t3 a b c xs ys zs) ⟨o1, o2, o3, fun h' hz hti hto h1 h2 h3 hsz hk => ?_⟩
  exact ⟨⟨_, hz, rfl⟩, h h' ⟨hz, hti, ⟨_, _, _, hto⟩, h1, h2, h3⟩ hk⟩
end
section
variable {X : Cx} {pins : List (Addr × Obj)} {σ : L2.St} {H : Hp} {s : Shared}
theorem fpNew (I : L2.Inv X pins σ H s) {l : List Addr} (h : ∀ c ∈ l, s.heap.objs.size ≤ c) : ∀ c ∈ l, FpOk X pins H c := fun c hc => I.fpOk (h c hc) (I.hok.fresh (h c hc))
def iZ2 (K : PySem.W.Frag) (st : Bool) (ta : TA) : TI := fun σ H R => ta σ H fun vs H1 => ∃ (a b : Nat) (t1 t2 : Bool) (xs ys : List V), vs = [.ref a, .ref b] ∧ Sq K H1 t1 a xs ∧ Sq K H1 t2 b ys ∧ R (Jz2 K st t1 t2 a b) H1
def iZ3 (K : PySem.W.Frag) (st : Bool) (ta : TA) : TI := fun σ H R => ta σ H fun vs H1 => ∃ (a b c : Nat) (t1 t2 t3 : Bool) (xs ys zs : List V), vs = [.ref a, .ref b, .ref c] ∧ Sq K H1 t1 a xs ∧ Sq K H1 t2 b ys ∧ Sq K H1 t3 c zs ∧ R (Jz3 K st t1 t2 t3 a b c) H1
def iEn (K : PySem.W.Frag) (ta : TA) : TI := fun σ H R => ta σ H fun vs H1 => ∃ (a : Nat) (t : Bool) (xs : List V), vs = [.ref a] ∧ Sq K H1 t a xs ∧ R (Jen K t a) H1
variable {e e2 e3 : Expr} {ta : TA} {p pos tpos kp kq : Pos} {elts : List Expr} {kk kj : Nat} {st : Bool}
theorem pi_z2 (hg : Gl X "zip") (hm : X.mg "zip" = none) (ha : PA X [e, e2] ta) (hs : starEach [e, e2] X.env = (false, eval e X.env) :: starEach [e2] X.env) (hpl : (backTo pos (starEach [e2] X.env)).any (·.1) = false) :
    PI X (.Tuple elts kk tpos) (.Call (.Name "zip" p) [e, e2] (kwE st kj kp kq) pos) (iZ2 X.K st ta) := by
  refine ⟨fun pins s σ H R I h => ?_⟩
  refine zip_call hg hm ha hs hpl I h fun us vs H1 s1 I1 r1 q1 => ?_
  obtain ⟨a, b, t1, t2, xs, ys, ev, q0, q1, q⟩ := q1
  subst ev
  cases r1 with
  | cons r rr =>
    cases rr with
    | cons r' rr =>
      cases rr
      cases r
      cases r'
      obtain ⟨i1, rv1, p1⟩ := sq_ob I1 q0
      obtain ⟨i2, rv2, p2⟩ := sq_ob I1 q1
      refine call_z2 p1 p2 fun h' D hk => iterZ D.z ?_
      have I2 : L2.Inv X pins σ H1 { s1 with heap := h' } := I1.kept (t' := s1.toks) hk
      have n1 : a < s1.heap.objs.size := p1.lt
      have n2 : b < s1.heap.objs.size := p2.lt
      exact ⟨_, _, _, _, H1, rfl, I2, turnZ2 s1.heap.objs.size a b st t1 t2 n1 n2, D, fun c hc => (by
        have hle : s1.heap.objs.size ≤ c := by
          have e' : c = s1.heap.objs.size ∨ c = s1.heap.objs.size + 1 ∨ c = s1.heap.objs.size + 2 ∨ c = s1.heap.objs.size + 3 ∨ c = s1.heap.objs.size + 4 := by simpa using hc
          rcases e' with z | z | z | z | z <;> rw [z] <;> first | exact Nat.le_refl _ | exact Nat.le_add_right _ _
        exact I1.fpOk hle (I1.hok.fresh hle)), q⟩
theorem pi_z3 (hg : Gl X "zip") (hm : X.mg "zip" = none) (ha : PA X [e, e2, e3] ta) (hs : starEach [e, e2, e3] X.env = (false, eval e X.env) :: starEach [e2, e3] X.env) (hpl : (backTo pos (starEach [e2, e3] X.env)).any (·.1) = false) :
    PI X (.Tuple elts kk tpos) (.Call (.Name "zip" p) [e, e2, e3] (kwE st kj kp kq) pos) (iZ3 X.K st ta) := by
  refine ⟨fun pins s σ H R I h => ?_⟩
  refine zip_call hg hm ha hs hpl I h fun us vs H1 s1 I1 r1 q1 => ?_
  obtain ⟨a, b, c, t1, t2, t3, xs, ys, zs, ev, q0, q1, q2, q⟩ := q1
  subst ev
  cases r1 with
  | cons r rr =>
    cases rr with
    | cons r' rr =>
      cases rr with
      | cons r'' rr =>
        cases rr
        cases r
        cases r'
        cases r''
        obtain ⟨i1, rv1, p1⟩ := sq_ob I1 q0
        obtain ⟨i2, rv2, p2⟩ := sq_ob I1 q1
        obtain ⟨i3, rv3, p3⟩ := sq_ob I1 q2
        refine call_z3 p1 p2 p3 fun h' D hk => iterZ D.z ?_
        have I2 : L2.Inv X pins σ H1 { s1 with heap := h' } := I1.kept (t' := s1.toks) hk
        have n1 : a < s1.heap.objs.size := p1.lt
        have n2 : b < s1.heap.objs.size := p2.lt
        have n3 : c < s1.heap.objs.size := p3.lt
        exact ⟨_, _, _, _, H1, rfl, I2, turnZ3 s1.heap.objs.size a b c st t1 t2 t3 n1 n2 n3, D, fun c hc => (by
          have hle : s1.heap.objs.size ≤ c := by
            have e' : c = s1.heap.objs.size ∨ c = s1.heap.objs.size + 1 ∨ c = s1.heap.objs.size + 2 ∨ c = s1.heap.objs.size + 3 ∨ c = s1.heap.objs.size + 4 ∨ c = s1.heap.objs.size + 5 := by simpa using hc
            rcases e' with z | z | z | z | z | z <;> rw [z] <;> first | exact Nat.le_refl _ | exact Nat.le_add_right _ _
          exact I1.fpOk hle (I1.hok.fresh hle)), q⟩
theorem boot_en : bootBuiltins "enumerate" = some (.type "enumerate") := by decide +kernel
theorem pi_en (hg : Gl X "enumerate") (hm : X.mg "enumerate" = none) (ha : PA X [e] ta) (hs : starEach [e] X.env = (false, eval e X.env) :: starEach [] X.env) :
    PI X (.Tuple elts kk tpos) (.Call (.Name "enumerate" p) [e] [] pos) (iEn X.K ta) := by
  refine ⟨fun pins s σ H R I h => ?_⟩
  refine Call_ (ld_blt I hg hm boot_en (PyProof.Rows.callWith_type1 (thn (ha.run pos pins s σ H _ I h) fun us s1 ⟨vs, H1, I1, r1, q1⟩ => ?_) hs rfl))
  obtain ⟨a, t, xs, ev, q0, q⟩ := q1
  subst ev
  cases r1 with
  | cons r rr =>
    cases rr
    cases r
    obtain ⟨i1, rv1, p1⟩ := sq_ob I1 q0
    refine callEnu p1 fun h' D hi hsz hk => iterE D ?_
    have I2 : L2.Inv X pins σ H1 { s1 with heap := h' } := I1.kept (t' := s1.toks) hk
    have n1 : a < s1.heap.objs.size := p1.lt
    exact ⟨_, _, _, _, H1, rfl, I2, turnE s1.heap.objs.size a t n1, ⟨⟨_, D⟩, hi⟩, fun c hc => (by
      have hle : s1.heap.objs.size ≤ c := by
        have e' : c = s1.heap.objs.size ∨ c = s1.heap.objs.size + 1 := by simpa using hc
        rcases e' with z | z <;> rw [z] <;> first | exact Nat.le_refl _ | exact Nat.le_add_right _ _
      exact I1.fpOk hle (I1.hok.fresh hle)), q⟩
end
end DL


set_option Elab.async false
set_option linter.all false
set_option maxRecDepth 100000
set_option maxHeartbeats 4000000
/-! DLX: an exception that was caught is held as a value; isinstance of it. -/
namespace DL
open PySem PySem.Spec PyProof.Rows L2

/-- an exception's object, held as a value -/
def ExP (cls : Value) (a : Addr) : HO := .ext fun g => ∃ (ob : Obj) (fs : Array Value), g.get? a = some ob ∧ Zc cls none ob ∧ ob.data = .fields fs
theorem exP_there {P : Program} {w : World} {H : Hp} {g : Heap} {a : Addr} {cls : Value} {ob : Obj} {fs : Array Value} (e : g.get? a = some ob) (z : Zc cls none ob) (d : ob.data = .fields fs) : ObjOk P w H g a (ExP cls a) :=
  ⟨⟨ob, fs, e, z, d⟩, ⟨ob, e⟩, fun _ _ ⟨o, v, q, r⟩ k => ⟨o, v, k o q, r⟩⟩
theorem exP_at {P : Program} {w : World} {H : Hp} {g : Heap} {a b : Addr} {cls : Value} (x : ObjOk P w H g a (ExP cls b)) : b = a ∧ ∃ (ob : Obj) (fs : Array Value), g.get? a = some ob ∧ Zc cls none ob ∧ ob.data = .fields fs := by
  obtain ⟨⟨ob, fs, e, z, d⟩, _, st⟩ := x
  obtain ⟨G, g1, g2⟩ := restrict g fun c => decide (c = a)
  obtain ⟨o2, f2, e2, _⟩ := st g G ⟨ob, fs, e, z, d⟩ fun o q => (g1 a (decide_eq_true rfl)).trans q
  by_cases hb : b = a
  · subst hb
    exact ⟨rfl, ob, fs, e, z, d⟩
  · rw [g2 b (decide_eq_false hb)] at e2
    cases e2

section
variable {X : Cx} {pins : List (Addr × Obj)} {σ : L2.St} {H : Hp} {s : Shared}
/-- an object that is there, new since the entry, is tracked from now on -/
theorem track {a : Addr} {ob : Obj} {fs : Array Value} {cls : Value} (I : Inv X pins σ H s) (e : s.heap.get? a = some ob) (z : Zc cls none ob) (d : ob.data = .fields fs) (na : H a = none) (n0 : X.s_0.heap.get? a = none) (nL : a ≠ X.env.locals) (np : ∀ p ∈ X.pn ++ pins, p.1 ≠ a) :
    Inv X pins σ (upd H a (ExP cls a)) s := by
  have B := I.base
  refine ⟨I.ok, I.os, I.bare, ⟨B.keep, B.slot, fun b o q n hx => ?_, B.there, fun b xs q => ?_, fun b o u q => ?_, fun b ps q => ?_⟩, I.loc, I.cell, ?_, fun x c q => ?_, fun p hp => ?_, fun b u q => ?_, I.len⟩
  · rw [upd_ne fun y => by rw [y, n0] at q; cases q]
    exact B.free b o q n hx
  · have q2 := B.tups b xs q
    rw [upd_ne (ne_of_none q2 na)]
    exact q2
  · have q2 := B.frzs b o u q
    rw [upd_ne (ne_of_none q2 na)]
    exact q2
  · obtain ⟨m, q2⟩ := B.tbls b ps q
    exact ⟨m, by rw [upd_ne (ne_of_none q2 na)]; exact q2⟩
  · rw [upd_ne (Ne.symm nL)]
    exact I.free
  · rw [upd_ne fun y => ?_]
    · exact I.freeC x c q
    · obtain ⟨v, o, ho, hd⟩ := I.cell x c q
      rw [y, e] at ho
      cases ho
      rw [d] at hd
      cases hd
  · obtain ⟨q1, q2, q3⟩ := I.pin p hp
    exact ⟨q1, by rw [upd_ne (np p hp)]; exact q2, q3⟩
  · by_cases hb : b = a
    · subst hb
      rw [upd_same] at q
      cases q
      exact exP_there e z d
    · rw [upd_ne hb] at q
      exact (I.hok b u q).stay (fun c v _ y => y) (fun c y => by rw [upd_ne (ne_of_none y na)]; exact y) fun c xs y => by rw [upd_ne (ne_of_none y na)]; exact y
end

/-- isinstance(x, c), x None or a held exception -/
def rIsX (K : PySem.W.Frag) : List V → Hp → VK → Prop := fun xs H Q => ∃ (x c : V) (u : Value) (b : Bool), xs = [x, c] ∧ ClsV c u ∧
  ((x = .non ∧ PySem.W.kitOne K (.type "NoneType") u = some b) ∨ ∃ (a D a' : Addr), x = .ref a ∧ H a = some (ExP (.ref D) a') ∧ ExcC K D ∧ PySem.W.kitOne K (.ref D) u = some b) ∧ Q (.bl b) H
theorem call_isX {X : Cx} : CallR X (.builtin "isinstance") (rIsX X.K) := by
  intro pins s σ H xs us Q I r h
  obtain ⟨x, c, u, b, rfl, k, hx, q⟩ := h
  obtain ⟨u1, u2, rfl, r1, r2⟩ := vals2 r
  have e2 := k.eq r2
  subst e2
  rcases hx with ⟨rfl, e⟩ | ⟨a, D, a', rfl, ha, C, e⟩
  · cases (show u1 = Value.none from r1)
    exact PySem.W.kia_one PySem.W.kitx_none I.kIn True.intro e (fun z => nomatch z) fun tk => ⟨.bl b, H, I.tok tk, rfl, q⟩
  · cases (show u1 = Value.ref a from r1)
    obtain ⟨_, ob, fs, e1, z, d⟩ := exP_at (I.hok a _ ha)
    have J : PySem.W.InstAt s.heap a ob D none := by
      obtain ⟨oc, od, oda, osl⟩ := ob
      obtain ⟨h1, h2⟩ := z
      dsimp only at h1 h2 d
      subst h1 h2 d
      exact ⟨e1, rfl, rfl, trivial⟩
    exact PySem.W.kia_one (PySem.W.handS_kitx_exc C.hg C.hk C.hs C.hd C.ha C.hn C.ht C.hm) I.kIn J e (fun z => nomatch z) fun tk => ⟨.bl b, H, I.tok tk, rfl, q⟩

/-- the wish of «except c as n: suite», the exception tracked; another wish where it keeps data -/
def wCat (K : PySem.W.Frag) (c : Value) (i : Nat) (ts : Addr → TS) (Wout : WX) (D : Ends) : WX := fun cls d σ H =>
  ∃ b, PySem.W.exmOne K cls c = some b ∧ (b = true → d = none ∧ ∀ a, H a = none → ts a { nx := fun σ' H' => D.nx (σ'.set i none) H', rt := D.rt, bk := fun σ' H' => D.bk (σ'.set i none) H', ct := fun σ' H' => D.ct (σ'.set i none) H' } (σ.set i (some (.ref a))) (upd H a (ExP cls a))) ∧
    (b = false → Wout cls d σ H)
section
variable {X : Cx} {x n : Str} {c : Value} {i : Nat} {body suite : List Stmt} {b₀ : Stmt} {np pos pos' : Pos} {tb : WX → TS} {ts : Addr → TS} {Wout : WX}
theorem ps_try_cat (hex : X.ex = []) (hs : X.stack = X.env :: X.outer) (hf : X.env.frame = some X.env.locals) (hN : X.N.Nodup) (hi : X.N[i]? = some n) (hln : X.env.kindOf n = some .local) (hc : Names X x c) (tk : Takes X Wout)
    (hb : ∀ (W : WX) (pn : List (Addr × Obj)) (xe : Value → Shared → Prop), Takes (X.tr pn xe) W → PassesOwn (model X.prog X.w) X.A X.env xe → PSs (X.tr pn xe) body (tb W))
    (hsu : ∀ (a : Addr) (pn : List (Addr × Obj)), PSs (X.suite a pn) (b₀ :: suite) (ts a)) :
    PS X (.Try body [.ExceptHandler (some (.Name x np)) (some n) (b₀ :: suite) pos'] [] [] pos) (fun D σ H => tb (wCat X.K c i ts Wout D) D σ H) := by
  refine ⟨fun pins s σ H D I h => ?_⟩
  have ok := I.ok
  have hfr : X.A.frames = some (X.env :: X.outer) := by rw [ok.frames, hs]
  refine wpAny_Try_except (wpAny_mono ((hb (wCat X.K c i ts Wout D) (X.pn ++ pins) (fun e s₁ => wpAny (model X.prog X.w) X.A (noteFrame e X.env) (fun _ s₂ => wpAny (model X.prog X.w) X.A (setFlight e none) (fun _ s₃ =>
    wpAny (model X.prog X.w) X.A (handleBy e X.env [.ExceptHandler (some (.Name x np)) (some n) (b₀ :: suite) pos']) (SP X pins D) X.xe s₃) X.xe s₂) X.xe s₁) (fun u s' xx => ?_) PassesOwn.looking).run [] s σ H D (I.toTry _) h) (fun f s1 hsp => ?_) fun e s1 he => he)
  · obtain ⟨a, B, sI, pins', σ', H', cls, d, rfl, Jt, nb, up, sky, na, eos, ag, b, hm, hyes, hno⟩ := xx
    have J : Inv X pins σ' H' sI := Jt.ofTry ok
    have aB : B.get? a = none := by
      rcases sky with ⟨_, q, _⟩ | ⟨_, q, _⟩ | ⟨_, q, _⟩ <;> exact q
    show wpAny _ X.A (noteFrame (.ref a) X.env) _ _ _
    refine Sky.land Zc.steady hfr hf (by rw [← hs]; exact sky) fun g3 fl3 up3 => ?_
    have J3 : Inv X pins σ' H' { s' with heap := g3 } := J.landed nb fl3.1 (up.trans up3) eos ag
    obtain ⟨ob3, fs3, e3, z3, d3⟩ := fl3.there
    have nfr : a ∉ frs (X.env :: X.outer) := fun hmem => by
      obtain ⟨_, o', e', hnf⟩ := fl3.2.2.1.mem hmem
      rw [e3] at e'
      cases e'
      exact hnf _ d3
    have nL : a ≠ X.env.locals := fun z => nfr (List.mem_filterMap.mpr ⟨X.env, List.mem_cons_self, by rw [hf, z]⟩)
    have nI : sI.heap.get? a = none := by
      cases q : sI.heap.get? a with
      | none => rfl
      | some o =>
        rw [nb a o q (by rw [hs]; exact nfr)] at aB
        cases aB
    have n0 : a ∉ X.ex → X.s_0.heap.get? a = none := fun hx => by
      cases q : X.s_0.heap.get? a with
      | none => rfl
      | some o =>
        obtain ⟨o', q2⟩ := J.base.there a o q hx
        rw [nI] at q2
        cases q2
    have npin : ∀ p ∈ X.pn ++ pins, p.1 ≠ a := fun p hp z => by
      have q := (J.pin p hp).1
      rw [z, nI] at q
      cases q
    have ae : a ∉ X.ex := by rw [hex]; exact fun z => nomatch z
    refine wpAny_handleBy_cons (codeAny_handlers_test ?_) (by intro q; cases q)
    have LT : PySem.W.Looks (model X.prog X.w) g3 (typeOf (.ref a)) cls := fun A Q E s k q => wpAny_typeOf_ref (k _ _ e3) (by rw [z3.1]; exact q)
    have LM := PySem.W.exm_one (M := model X.prog X.w) J3.kIn LT hm
    have S0 : ∀ {h : Heap} (J : Inv X pins σ' H' { s' with heap := h }), Inv (X.suite a (X.pn ++ pins)) [] σ' H' { s' with heap := h } := fun J => ⟨J.ok.suite _ _, J.os, J.bare, J.base, J.loc, J.cell, J.free, J.freeC, fun p hp => J.pin p (by rw [List.append_nil] at hp; exact hp), J.hok, J.len⟩
    have test : ∀ {Q : Value → Shared → Prop} {E : Value → Shared → Prop}, Q c { s' with heap := g3 } → wpAny (model X.prog X.w) (X.A.mark (some (.ref a))) (eval (.Name x np) X.env) Q E { s' with heap := g3 } := fun {Q E} q => by
      obtain ⟨hg, hdbg, k | ⟨k, hv, hnn⟩⟩ := hc
      · exact ld_glob (X := X.suite a (X.pn ++ pins)) (S0 J3) hg k q hdbg
      · exact ld_blt (X := X.suite a (X.pn ++ pins)) (S0 J3) hg k hv q hnn hdbg
    refine test (LM.here ?_)
    cases b with
    | true =>
      obtain ⟨rfl, hy⟩ := hyes rfl
      refine codeAny_handlers_suite_as (HandSPX.lands_againZ fl3 fun g4 fl4 up4 => ?_)
      have J4 : Inv X pins σ' H' { s' with heap := g4 } := J.landed nb fl4.1 ((up.trans up3).trans up4) eos ag
      obtain ⟨ob4, fs4, e4, z4, d4⟩ := fl4.there
      have T4 : Inv X pins σ' (upd H' a (ExP cls a)) { s' with heap := g4 } := track J4 e4 z4 d4 na (n0 ae) nL npin
      have S4 : Inv (X.suite a (X.pn ++ pins)) [] σ' (upd H' a (ExP cls a)) { s' with heap := g4 } := ⟨T4.ok.suite _ _, T4.os, T4.bare, T4.base, T4.loc, T4.cell, T4.free, T4.freeC, fun p hp => T4.pin p (by rw [List.append_nil] at hp; exact hp), T4.hok, T4.len⟩
      refine store_ok (X := X.suite a (X.pn ++ pins)) (v := .ref a) S4 hN hi (.inl hln) rfl (fun s5 S5 => ?_) (.inr hln)
      have back : ∀ {σ6 : L2.St} {H6 : Hp} {s6 : Shared}, Inv (X.suite a (X.pn ++ pins)) [] σ6 H6 s6 → Inv X pins σ6 H6 s6 := fun S => ⟨ok, S.os, S.bare, S.base, S.loc, S.cell, S.free, S.freeC, fun p hp => S.pin p (by rw [List.append_nil]; exact hp), S.hok, S.len⟩
      refine wpAny_mono ((hsu a (X.pn ++ pins)).run [] s5 _ _ _ S5 (hy a na)) (fun f s6 hsp => ?_) (fun _ _ z => False.elim z)
      cases f with
      | next =>
        obtain ⟨σ6, H6, S6, q6⟩ := hsp
        exact gone_ok (back S6) hN hi hln fun s7 J7 => ⟨_, _, J7, q6⟩
      | brk =>
        obtain ⟨σ6, H6, S6, q6⟩ := hsp
        exact gone_ok (back S6) hN hi hln fun s7 J7 => ⟨_, _, J7, q6⟩
      | cont =>
        obtain ⟨σ6, H6, S6, q6⟩ := hsp
        exact gone_ok (back S6) hN hi hln fun s7 J7 => ⟨_, _, J7, q6⟩
      | ret u =>
        obtain ⟨v6, σ6, H6, S6, r6, q6⟩ := hsp
        exact gone_ok (back S6) hN hi hln fun s7 J7 => ⟨_, _, _, J7, r6, q6⟩
    | false =>
      show wpAny _ X.A (handleBy (.ref a) X.env []) _ _ _
      refine wpAny_handleBy_nil ?_
      obtain ⟨k1, k2, k3, oe, vs, T, oT, ts', he, hz, hd, h1, hr⟩ := id fl3
      unfold PySem.passOn
      refine wpAny_bind (wpAny_field he hd h1 ?_)
      rw [if_neg (show ¬ ((Value.ref T == Value.none) = true) from by simp)]
      have fin : wpAny (model X.prog X.w) X.A (setFlight (.ref a) X.env.frame) (fun _ s4 => wpAny (model X.prog X.w) X.A (throw (.ref a) : Sem Flow) (SP X pins D) X.xe s4) X.xe { s' with heap := g3 } := by
        rw [hf]
        exact HandSPX.setFlight_upZ fl3 fun g4 hh4 up4 => wpAny_throw (tk _ _ ⟨a, B, sI, pins, σ', H', cls, d, rfl, J, nb, (up.trans up3).trans up4, .inr (.inr (by rw [hs]; exact hh4)), na, eos, ag, hno rfl⟩)
      first
        | exact wpAny_bind (wpAny_pure (wpAny_bind fin))
        | exact wpAny_bind fin
  · cases f with
    | next =>
      obtain ⟨σ', H', Jt, q⟩ := hsp
      exact wpAny_execs_nil ⟨σ', H', Jt.ofTry ok, q⟩
    | brk =>
      obtain ⟨σ', H', Jt, q⟩ := hsp
      exact ⟨σ', H', Jt.ofTry ok, q⟩
    | cont =>
      obtain ⟨σ', H', Jt, q⟩ := hsp
      exact ⟨σ', H', Jt.ofTry ok, q⟩
    | ret u =>
      obtain ⟨v, σ', H', Jt, r, q⟩ := hsp
      exact ⟨v, σ', H', Jt.ofTry ok, r, q⟩
end
end DL


set_option Elab.async false
set_option linter.all false
set_option maxRecDepth 100000
set_option maxHeartbeats 4000000
/-! DLR: t[::-1], t a tuple. -/
namespace DL
open PySem PySem.Spec PyProof.Rows L2 HT
theorem adjust_back (n : Nat) : Builtin.Slice.sliceAdjust none none (-1) (n : Int) = ((n : Int) - 1, -1) := rfl
theorem places_back (n : Nat) : Builtin.Slice.slicePlaces ((n : Int) - 1) (-1) (-1) = n := by
  unfold Builtin.Slice.slicePlaces
  rw [if_neg (by decide)]
  by_cases h : (n : Int) - 1 > -1
  · rw [if_pos h]
    have : -(-1 : Int) = 1 := rfl
    rw [this, Int.ediv_one]
    omega
  · rw [if_neg h]
    omega
theorem fmCong {α β : Type} {f g : α → Option β} : ∀ {l : List α}, (∀ x ∈ l, f x = g x) → l.filterMap f = l.filterMap g
  | [], _ => rfl
  | x :: l, h => by rw [List.filterMap_cons, List.filterMap_cons, h x List.mem_cons_self, fmCong fun y hy => h y (List.mem_cons_of_mem _ hy)]
theorem pick_back (xs : Array Value) : ((List.range xs.size).filterMap fun (m : Nat) => xs[(((xs.size : Int) - 1) + (m : Int) * (-1)).toNat]?).toArray = xs.toList.reverse.toArray := by
  congr 1
  have e : ∀ m ∈ List.range xs.size, xs[(((xs.size : Int) - 1) + (m : Int) * (-1)).toNat]? = some (xs.toList.reverse.getD m .none) := fun m hm => by
    have hm := List.mem_range.mp hm
    have i : (((xs.size : Int) - 1) + (m : Int) * (-1)).toNat = xs.size - 1 - m := by omega
    have hl : m < xs.toList.reverse.length := by rw [List.length_reverse, Array.length_toList]; exact hm
    rw [i, List.getD_eq_getElem?_getD, List.getElem?_eq_getElem hl, Option.getD_some, List.getElem_reverse]
    have hk : xs.size - 1 - m < xs.size := by omega
    rw [Array.getElem?_eq_getElem hk]
    simp [Array.getElem_toList]
  have e2 : (List.range xs.size).filterMap (fun (m : Nat) => xs[(((xs.size : Int) - 1) + (m : Int) * (-1)).toNat]?) = (List.range xs.size).map fun m => xs.toList.reverse.getD m .none := by
    rw [← List.filterMap_eq_map]
    exact fmCong e
  rw [e2]
  refine List.ext_getElem (by simp) fun k h1 h2 => ?_
  rw [List.getElem_map, List.getElem_range, List.getD_eq_getElem?_getD, List.getElem?_eq_getElem h2]
  rfl
section
variable {prog : Program} {w : World} {A : Around} {E : Value → Shared → Prop} {s : Shared}
theorem sliceApplied_back {sl : Addr} {u : Tok} {n : Nat} {Q : Int × Int × Nat → Shared → Prop} (hs : s.heap.IsSliceOf sl .none .none (.int (-1) u)) (h : Q ((n : Int) - 1, -1, n) s) : wpAny (model prog w) A (Builtin.Slice.sliceApplied (.ref sl) (pure (n : Int))) Q E s := by
  obtain ⟨os, hos, hcs, hds⟩ := id hs
  unfold Builtin.Slice.sliceApplied Builtin.Slice.sliceFields
  refine wpAny_bind (wpAny_bind (wpAny_field hos hds (x := .none) rfl (wpAny_bind (wpAny_field hos hds (x := .none) rfl (wpAny_bind (wpAny_field hos hds (x := .int (-1) u) rfl (wpAny_pure ?_)))))))
  refine wpAny_bind (slicePart_ (.int (-1) u) ?_)
  show wpAny _ _ (if ((-1 : Int) == 0) = true then _ else _) _ _ s
  rw [if_neg (by decide)]
  refine wpAny_bind (slicePart_ .none (wpAny_bind (slicePart_ .none (wpAny_bind (wpAny_pure ?_)))))
  show wpAny _ _ (match Builtin.Slice.sliceAdjust none none (-1) (n : Int) with | (lo, hi) => pure (lo, (-1 : Int), Builtin.Slice.slicePlaces lo hi (-1))) _ _ s
  rw [adjust_back n]
  show wpAny _ _ (pure ((n : Int) - 1, (-1 : Int), Builtin.Slice.slicePlaces ((n : Int) - 1) (-1) (-1))) _ _ s
  rw [places_back]
  exact wpAny_pure h
theorem getItem_tuple_back {t sl : Addr} {items : Array Value} {u : Tok} {Q : Value → Shared → Prop} (ht : IsTup s.heap t items) (hs : s.heap.IsSliceOf sl .none .none (.int (-1) u))
    (h : Q (.ref s.heap.objs.size) { s with heap := s.heap.push { cls := .type "tuple", data := .seq items.toList.reverse.toArray } }) (hsz : items.size ≤ sizeLine) : wpAny (model prog w) A (getItem (.ref t) (.ref sl)) Q E s := by
  have hrev : sizeOk (.seq items.toList.reverse.toArray) := by
    show items.toList.reverse.toArray.size ≤ sizeLine
    rw [List.size_toArray, List.length_reverse, Array.length_toList]
    exact hsz
  obtain ⟨os, hos, hcs, hds⟩ := id hs
  have hTs : s.TypeIs (.ref sl) "slice" := ⟨os, hos, hcs⟩
  unfold getItem
  try with_reducible refine wpAny_holding ?_
  first | refine wpAny_bind (wpAny_pure ?_) | skip
  refine wpAny_bind (wpAny_sequenceKey ht.typeIs (by decide) ?_)
  refine wpAny_bind (wpAny_callSpecial?_slot (name := Str.ofString "__getitem__") ht.typeIs PyProof.Rows.slot_tuple_getitem (wpAny_call_entry PyProof.Rows.slot_tuple_getitem ht.typeIs entry_tuple_getitem ?_ (args_tuple_getitem _ _)))
  show wpAny _ _ (Builtin.Tuple.tupleItemsOf (.ref t) >>= _) _ _ s
  refine wpAny_bind (tupleItemsOf_ ht (wpAny_bind (wpAny_typeOf hTs ?_)))
  rw [if_pos (by decide)]
  refine wpAny_bind (sliceApplied_back (n := items.size) hs ?_)
  have hno : ¬ (((((items.size : Int) - 1) == 0 && (-1 : Int) == 1) && items.size == items.size) = true) := by simp
  show wpAny _ _ (if ((((items.size : Int) - 1) == 0 && (-1 : Int) == 1) && items.size == items.size) = true then _ else _) _ _ s
  rw [if_neg hno, pick_back]
  first
    | exact wpAny_bind (m := Builtin.Tuple.tupleExact _) (wpAny_newObj_type (wpAny_pure ⟨_, rfl, wpAny_pure h⟩) hrev)
    | exact wpAny_bind (m := Builtin.Tuple.tupleExact _) (wpAny_newObj_type (wpAny_bind (wpAny_pure (wpAny_pure ⟨_, rfl, wpAny_pure h⟩))) hrev)
    | exact wpAny_bind (wpAny_bind (m := Builtin.Tuple.tupleExact _) (wpAny_newObj_type (wpAny_pure (wpAny_pure ⟨_, rfl, wpAny_pure h⟩)) hrev))
    | exact wpAny_bind (wpAny_bind (m := Builtin.Tuple.tupleExact _) (wpAny_newObj_type (wpAny_pure ⟨_, rfl, wpAny_pure h⟩) hrev))
end
/-- x[::-1] of a list or a tuple -/
def tRevA (K : PySem.W.Frag) (te : TE) : TE := fun σ H Q => te σ H fun x H1 => ∃ a xs, x = .ref a ∧ ((SqL K H1 a xs ∧ ∀ p, H1 p = none → Q (.ref p) (upd H1 p (.lst xs.reverse))) ∨ (SqT K H1 a xs ∧ ∀ p, H1 p = none → Q (.ref p) (upd H1 p (.tup xs.reverse))))
theorem pe_revA {X : Cx} {e : Expr} {te : TE} {k : Nat} {p1 p2 p3 pos : Pos} (he : PE X e te) : PE X (.Subscript e (.Slice none none (some (.UnaryOp .USub (.Constant (.int 1) k p1) p2)) p3) pos) (tRevA X.K te) := by
  refine ⟨fun pins s σ H Q I h => Subscript_ (thn (he.run pins s σ H _ I h) fun v s1 ⟨x, H1, I1, r1, a, xs, ex, q1⟩ => ?_)⟩
  subst ex
  cases r1
  have hst : PO X (some (.UnaryOp .USub (.Constant (.int 1) k p1) p2)) (tPart (tUn (rU fun i => .int (-i)) (tC (.int 1)))) := po_some (pe_un un_neg pe_int)
  refine wpAny_Slice (thn (po_none.run pins s1 σ H1 (fun o H2 => o = none ∧ H2 = H1) I1 ⟨rfl, rfl⟩) fun vl s2 ⟨l, H2, I2, pl, el, e2⟩ => ?_)
  subst el e2
  refine thn (po_none.run pins s2 σ H2 (fun o H3 => o = none ∧ H3 = H2) I2 ⟨rfl, rfl⟩) fun vu s3 ⟨u, H3, I3, pu, eu, e3⟩ => ?_
  subst eu e3
  refine thn (hst.run pins s3 σ H3 (fun o H4 => o = some (-1) ∧ H4 = H3) I3 ⟨1, rfl, -1, rfl, rfl, rfl⟩) fun vs s4 ⟨o, H4, I4, ps, eo, e4⟩ => ?_
  subst eo e4
  have I5 : Inv X pins σ H4 { s4 with heap := s4.heap.push { cls := .type "slice", data := .fields #[vl, vu, vs] } } := I4.kept (t' := s4.toks) fun b ob q => Heap.get?_push_of_some _ q
  show wpAny (model X.prog X.w) X.A (subscriptTail e (.Slice none none (some (.UnaryOp .USub (.Constant (.int 1) k p1) p2)) p3) (.ref a) (.ref s4.heap.objs.size)) (EP X pins σ Q) X.xe { s4 with heap := s4.heap.push { cls := .type "slice", data := .fields #[vl, vu, vs] } }
  rcases q1 with ⟨hx, q⟩ | ⟨hx, q⟩
  · obtain ⟨its, r, ht, hz⟩ := I5.list hx
    have hlen := r.length
    refine tail_any (ops := [.ref a, .ref s4.heap.objs.size]) ht.isList.typeIs (PySem.slot_list_getitem.lookup) ?_ (by with_unfolding_all rfl)
    refine wpAny_getItem_list_slice ht.isList (Heap.IsSliceOf.new _ vl vu vs) pl pu ps (by decide) ?_ (by rw [List.size_toArray]; omega)
    rw [PySem.W.krv_pick]
    exact ⟨.ref _, _, I5.laid (t' := s4.toks) (o := .lst xs.reverse) (fun b ob q => Heap.get?_push_of_some _ q) (Nat.le_refl _) ⟨by rw [List.length_reverse]; exact hz, _, 0, r.reverse, Heap.get?_push_size _ rfl⟩, rfl, q _ (I5.hok.fresh (Nat.le_refl _))⟩
  · obtain ⟨its, r, ht, hz⟩ := I5.tuple hx
    have hlen := r.length
    cases pl
    cases pu
    cases ps
    refine tail_any (ops := [.ref a, .ref s4.heap.objs.size]) ht.typeIs PyProof.Rows.slot_tuple_getitem.lookup ?_ (by with_unfolding_all rfl)
    refine getItem_tuple_back ht (Heap.IsSliceOf.new _ _ _ _) ?_ (by rw [List.size_toArray]; omega)
    exact ⟨.ref _, _, I5.laid (t' := s4.toks) (o := .tup xs.reverse) (fun b ob q => Heap.get?_push_of_some _ q) (Nat.le_refl _) ⟨by rw [List.length_reverse]; exact hz, _, by simpa using r.reverse, IsTup.new _ _⟩, rfl, q _ (I5.hok.fresh (Nat.le_refl _))⟩
end DL


set_option Elab.async false
set_option linter.all false
set_option maxRecDepth 100000
set_option maxHeartbeats 2000000
/-! DL13: what is checked of a text against its term (ck..), the context's facts (XOk), posts one after another, targets. -/
namespace DL
open PySem PySem.Spec PyProof.Rows L2

/-- a def's names: its slots, the module's data, the module's defs, its exceptions' classes without a making of their own -/
structure Cf where
  N : List Str
  gx : List Str
  fx : List Str
  ex : List Str
  /-- the classes of exceptions that are asked for -/
  cx : List Str
  /-- the keyword by which the last argument of a callee is handed in -/
  kx : List (Option Str)
def kwOf (cf : Cf) (k : Nat) : Option Str := (cf.kx[k]?).join

def okN (x : Str) : Bool := !(x == ("__debug__" : Str)) && !(x == ("__classdict__" : Str)) && !(x == ("__name__" : Str))
def visB (sc : Scope) (x : Str) : Bool := match sc.names.lookup x with
  | some .local => true
  | some .cell => true
  | some .free => true
  | _ => false
def locB (sc : Scope) (x : Str) : Bool := match sc.names.lookup x with
  | some .local => true
  | some .cell => true
  | _ => false
def stB (sc : Scope) (fc : Option Scope) (x : Str) : Bool := match sc.names.lookup x with
  | some .local => true
  | some .cell => (match fc with
    | none => true
    | some s => s.names.lookup x == some .cell)
  | _ => false
def glB (sc : Scope) (x : Str) : Bool := sc.names.lookup x == some .globalImplicit
def atB (l : List Str) (i : Nat) (x : Str) : Bool := l[i]? == some x
def nmB (cf : Cf) (sc : Scope) (i : Nat) (x : Str) : Bool := atB cf.N i x && visB sc x && okN x
def gnB (sc : Scope) (x : Str) : Bool := glB sc x && okN x

def ckLit : D → Expr → Bool
  | .none, .Constant .none _ _ => true
  | .bool b, .Constant (.bool c) _ _ => b == c
  | .int i, .Constant (.int j) _ _ => i == j
  | .str x, .Constant (.str y) _ _ => x == y
  | _, _ => false
def plainB : Expr → Bool
  | .Slice _ _ _ _ => false
  | _ => true
/-- no star, no set display: what stands as an argument or behind in -/
def argB : Expr → Bool
  | .Starred _ _ => false
  | .Set _ _ _ => false
  | _ => true
def ownOf (N : List Str) (vs : List Nat) : List (Str × Nat) := vs.filterMap fun i => (N[i]?).map fun x => (x, i)
mutual
def tgS : Tg → List Nat
  | .nm i => [i]
  | .tp ts => tgSs ts
def tgSs : List Tg → List Nat
  | [] => []
  | t :: ts => tgS t ++ tgSs ts
end
mutual
def ckTg (cf : Cf) (sc : Scope) (fc : Option Scope) : Tg → Expr → Bool
  | .nm i, .Name x _ => atB cf.N i x && stB sc fc x
  | .tp ts, .Tuple es _ _ => ckTgs cf sc fc ts es
  | _, _ => false
def ckTgs (cf : Cf) (sc : Scope) (fc : Option Scope) : List Tg → List Expr → Bool
  | [], [] => true
  | t :: ts, e :: es => ckTg cf sc fc t e && ckTgs cf sc fc ts es
  | _, _ => false
end
def kwB (st : Bool) : List Keyword → Bool
  | [] => !st
  | [⟨some x, .Constant (.bool true) _ _, _⟩] => st && x == ("strict" : Str)
  | _ => false
/-- what may be looked at -/
def pkB : Expr → Bool
  | .Compare _ _ _ _ => true
  | .BoolOp _ _ _ => true
  | .UnaryOp _ _ _ => true
  | .Call _ _ _ _ => true
  | _ => false
def isTup : Expr → Bool
  | .Tuple _ _ _ => true
  | _ => false
def isIsi : Bi → Bool
  | .isi _ => true
  | _ => false
def ckIsi (sc : Scope) : Bi → List Expr → Bool
  | .isi t, [.Name y _] => y == Str.ofString (tyStr t) && glB sc y
  | .isi _, _ => false
  | _, _ => true
def len01 : List Expr → Bool
  | [] => true
  | [_] => true
  | _ => false
def len12 : List Expr → Bool
  | [_] => true
  | [_, _] => true
  | _ => false
/-- what list(..) is asked of -/
def litB : It → Bool
  | .zip true (.cons _ (.cons _ .nil)) => true
  | .rng (.cons _ .nil) => true
  | _ => false
mutual
def ckE (cf : Cf) : Scope → Option Scope → Ex → Expr → Bool
  | _, _, .lit c, e => ckLit c e
  | sc, _, .v i, .Name x _ => nmB cf sc i x
  | sc, _, .frz i, .Name x _ => nmB cf sc i x
  | sc, _, .tk i, .Name x _ => nmB cf sc i x
  | sc, fc, .oix i b, .Subscript (.Name x _) sl _ => nmB cf sc i x && plainB sl && ckE cf sc fc b sl
  | sc, fc, .oadd a i, .BinOp l .Add (.Name x _) _ => nmB cf sc i x && ckE cf sc fc a l
  | sc, _, .olen i, .Call (.Name f _) [.Name x _] [] _ => f == ("len" : Str) && glB sc f && nmB cf sc i x
  | sc, fc, .peek a, e => pkB e && ckE cf sc fc a e
  | sc, _, .olst i, .Call (.Name f _) [.Name x _] [] _ => f == ("list" : Str) && glB sc f && nmB cf sc i x
  | sc, _, .gl k, .Name x _ => atB cf.gx k x && gnB sc x
  | sc, fc, .bin o a b, .BinOp l p r _ => opB o == p && ckE cf sc fc a l && ckE cf sc fc b r
  | sc, fc, .neg a, .UnaryOp .USub l _ => ckE cf sc fc a l
  | sc, fc, .no a, .UnaryOp .Not l _ => ckE cf sc fc a l
  | sc, fc, .cmp o a b, .Compare l [p] [r] _ => opC o == p && !behindInMarks p r && ckE cf sc fc a l && ckE cf sc fc b r
  | sc, fc, .chn o o2 a b c, .Compare l [p, q] [r, t] _ => opC o == p && opC o2 == q && !lastMarks [p, q] [r, t] && ckE cf sc fc a l && ckE cf sc fc b r && ckE cf sc fc c t
  | sc, fc, .and a b, .BoolOp .And (l :: rest) pos => ckE cf sc fc a l && (match rest with
    | [] => false
    | [r] => ckE cf sc fc b r
    | r :: s :: u => ckE cf sc fc b (.BoolOp .And (r :: s :: u) pos))
  | sc, fc, .or a b, .BoolOp .Or (l :: rest) pos => ckE cf sc fc a l && (match rest with
    | [] => false
    | [r] => ckE cf sc fc b r
    | r :: s :: u => ckE cf sc fc b (.BoolOp .Or (r :: s :: u) pos))
  | sc, fc, .ife c a b, .IfExp t x y _ => ckE cf sc fc c t && ckE cf sc fc a x && ckE cf sc fc b y
  | sc, fc, .tup es, .Tuple ls _ _ => ckEs cf sc fc es ls
  | sc, fc, .lst es, .List ls _ => ckEs cf sc fc es ls
  | sc, fc, .ix a b, .Subscript l r _ => plainB r && ckE cf sc fc a l && ckE cf sc fc b r
  | sc, fc, .sl a lo hi, .Subscript l (.Slice x y none _) _ => ckE cf sc fc a l && ckOp cf sc fc lo x && ckOp cf sc fc hi y
  | sc, fc, .rsl a, .Subscript l (.Slice none none (some (.UnaryOp .USub (.Constant (.int 1) _ _) _)) _) _ => ckE cf sc fc a l
  | sc, fc, .isx a c, .Call (.Name x _) [e, .Name y _] [] _ => x == ("isinstance" : Str) && glB sc x && y == c && gnB sc y && cf.cx.contains c && argB e && ckE cf sc fc a e
  | sc, fc, .bi f es, .Call (.Name x _) (e :: ls) [] _ => x == biName f && glB sc x && ckIsi sc f ls && ckEs cf sc fc es (if isIsi f = true then [e] else e :: ls)
  | sc, fc, .lit_ it, .Call (.Name f _) [g] [] _ => f == ("list" : Str) && glB sc f && litB it && ckIt cf sc fc it true g
  | sc, fc, .call k es, .Call (.Name x _) (e :: ls) [] _ => atB cf.fx k x && gnB sc x && ckEs cf sc fc es (e :: ls) && (kwOf cf k).isNone
  | sc, fc, .callk k es a, .Call (.Name x _) (e :: ls) [⟨some n, ea, _⟩] _ => atB cf.fx k x && gnB sc x && kwOf cf k == some n && ckEs cf sc fc es (e :: ls) && ckE cf sc fc a ea
  | sc, fc, .callo k i es, .Call (.Name x _) (.Name y _ :: ls) [] _ => atB cf.fx k x && gnB sc x && nmB cf sc i y && ckEs cf sc fc es ls && (kwOf cf k).isNone
  | sc, fc, .comp x vs g it c, .ListComp elt [⟨tg, iter, ifs, 0⟩] scope _ =>
      blkC cf.N sc scope (ownOf cf.N vs) && (ownOf cf.N vs).map (·.2) == vs && (tgS g).all (fun i => vs.contains i) && ckTg cf (relS scope sc) (some scope) g tg && ckIt cf sc fc it (isTup tg) iter &&
        ckE cf (relS scope sc) (some scope) x elt && ckOp cf (relS scope sc) (some scope) c ifs.head? && len01 ifs
  | _, _, _, _ => false
def ckEs (cf : Cf) : Scope → Option Scope → Exs → List Expr → Bool
  | _, _, .nil, [] => true
  | sc, fc, .cons a as, e :: es => argB e && ckE cf sc fc a e && ckEs cf sc fc as es
  | _, _, _, _ => false
def ckOp (cf : Cf) : Scope → Option Scope → Op → Option Expr → Bool
  | _, _, .non, none => true
  | sc, fc, .som a, some e => ckE cf sc fc a e
  | _, _, _, _ => false
def ckIt (cf : Cf) : Scope → Option Scope → It → Bool → Expr → Bool
  | sc, fc, .seq a, _, e => argB e && ckE cf sc fc a e
  | sc, fc, .zip st es, tp, .Call (.Name x _) (e :: ls) kws _ => tp && x == ("zip" : Str) && glB sc x && kwB st kws && len12 ls && ckEs cf sc fc es (e :: ls)
  | sc, fc, .enum (.seq a), tp, .Call (.Name x _) [e] [] _ => tp && x == ("enumerate" : Str) && glB sc x && argB e && ckE cf sc fc a e
  | sc, fc, .rng es, _, .Call (.Name x _) (e :: ls) [] _ => x == ("range" : Str) && glB sc x && len01 ls && ckEs cf sc fc es (e :: ls)
  | sc, fc, .rev a, _, .Call (.Name x _) [e] [] _ => x == ("reversed" : Str) && glB sc x && argB e && ckE cf sc fc a e
  | _, _, _, _, _ => false
end

/-- the house's classes of exceptions, those that stand in the module -/
structure ExF (K : PySem.W.Frag) (mg : Str → Option Value) : Prop where
  cls : ∀ k C, exNames.contains k = true → mg k = some (.ref C) → ExcC K C ∧ PySem.W.kitOne K (.ref C) (.type "ValueError") = some true ∧ PySem.W.kitOne K (.type "NoneType") (.ref C) = some false
  sub : ∀ k c C D, exNames.contains k = true → exNames.contains c = true → mg k = some (.ref C) → mg c = some (.ref D) → PySem.W.kitOne K (.ref C) (.ref D) = some (exSub k c) ∧ PySem.W.exmOne K (.ref C) (.ref D) = some (exSub k c)
/-- what a name that is called stands for: a def, perhaps with defaults -/
def Callee (P : Program) (w : World) (K : PySem.W.Frag) (mg : Str → Option Value) (base : Heap) (xo : XO) (n : Nat) (x : Str) (f : Fn) : Prop := ∃ (a : Addr) (fd : FuncData) (ps : List Str) (dvs : List V) (ds : List Value) (sp0 : Sp),
  FnOk P w K mg base (L2.CX P w) n a fd ps sp0 ∧ mg x = some (.ref a) ∧ PySem.W.keepIn K (.ref a) = true ∧ Binds K fd ps ds ∧ Vals dvs ds ∧ ∀ vs H Q E, spFn K xo mg f vs H Q E → sp0 (vs ++ dvs) H Q E
/-- .. a def whose last argument is handed in by its name -/
def KCallee (P : Program) (w : World) (K : PySem.W.Frag) (mg : Str → Option Value) (base : Heap) (xo : XO) (n : Nat) (nm : Str) (x : Str) (f : Fn) : Prop := ∃ (a : Addr) (fd : FuncData) (ps : List Str) (m : Nat) (g : List Value → List Value → List Value) (sp0 : Sp),
  FnOk P w K mg base (L2.CX P w) n a fd ps sp0 ∧ mg x = some (.ref a) ∧ PySem.W.keepIn K (.ref a) = true ∧ KBn K fd ps m [nm] g (fun vs zs => vs ++ zs) ∧ m + 1 = f.np ∧ ∀ vs H Q E, spFn K xo mg f vs H Q E → sp0 vs H Q E
def CalleeN (P : Program) (w : World) (K : PySem.W.Frag) (mg : Str → Option Value) (base : Heap) (xo : XO) (n : Nat) (x : Str) (f : Fn) : Option Str → Prop
  | none => Callee P w K mg base xo n x f
  | some nm => KCallee P w K mg base xo n nm x f
/-- the module's facts -/
structure XM (P : Program) (w : World) (K : PySem.W.Frag) (mg : Str → Option Value) (base : Heap) (A : Around) (cf : Cf) (G : List D) (Γ : List Fn) (xo : XO) : Prop where
  units : A.units + 65 < cLine
  glb : ∀ (k : Nat) (x : Str) (d : D), cf.gx[k]? = some x → G[k]? = some d → ∃ v u, mg x = some u ∧ RelV v u ∧ ∀ F, Den K xo F v d
  fun_ : ∀ (k : Nat) (x : Str), cf.fx[k]? = some x → ∃ f, Γ[k]? = some f ∧ ∃ n, CalleeN P w K mg base xo n x f (kwOf cf k) ∧ Room n A
  blt : ∀ x ∈ bNames, mg x = none
  exf : ExF K mg
  xof : ∀ k o, exNames.contains k = true → (xo k none o ↔ ∃ C a, mg k = some (.ref C) ∧ o = ExP (.ref C) a)
  cxs : ∀ c ∈ cf.cx, (c = ("ValueError" : Str) ∧ mg c = none) ∨ ∃ C, mg c = some (.ref C) ∧ exNames.contains c = true
structure XOk (X : Cx) (cf : Cf) (sc : Scope) (fc : Option Scope) (G : List D) (Γ : List Fn) (xo : XO) (W : WX) : Prop where
  m : XM X.prog X.w X.K X.mg X.base X.A cf G Γ xo
  hN : X.N = cf.N
  nd : cf.N.Nodup
  hsc : X.env.scope = sc
  calm : X.calm = true
  fn : ∀ x, stB sc fc x = true → X.fn x = true ∨ X.env.scope.names.lookup x = some .local
  tk : Takes X W

section
variable {X : Cx} {cf : Cf} {sc : Scope} {fc : Option Scope} {G : List D} {Γ : List Fn} {xo : XO} {W : WX}
theorem okN_d {x : Str} (h : okN x = true) : (x == ("__debug__" : Str)) = false ∧ (x == ("__classdict__" : Str)) = false ∧ x ≠ ("__name__" : Str) := by
  unfold okN at h
  simp only [Bool.and_eq_true, Bool.not_eq_true'] at h
  exact ⟨h.1.1, h.1.2, fun e => by rw [e] at h; exact absurd h.2 (by decide)⟩
theorem atB_e {l : List Str} {i : Nat} {x : Str} (h : atB l i x = true) : l[i]? = some x := by
  unfold atB at h
  exact beq_iff_eq.mp h
theorem visB_e {x : Str} (h : visB sc x = true) : Vis sc x := by
  unfold visB at h
  split at h <;> first | exact .inl (by assumption) | exact .inr (.inl (by assumption)) | exact .inr (.inr (by assumption)) | cases h
theorem stB_loc {x : Str} (h : stB sc fc x = true) : Loc sc x := by
  unfold stB at h
  split at h <;> first | exact .inl (by assumption) | exact .inr (by assumption) | cases h
theorem XOk.nm (o : XOk X cf sc fc G Γ xo W) {i : Nat} {x : Str} (h : nmB cf sc i x = true) : X.N[i]? = some x ∧ Vis X.env.scope x ∧ (x == ("__debug__" : Str)) = false ∧ (x == ("__classdict__" : Str)) = false := by
  unfold nmB at h
  simp only [Bool.and_eq_true] at h
  rw [o.hN, o.hsc]
  exact ⟨atB_e h.1.1, visB_e h.1.2, (okN_d h.2).1, (okN_d h.2).2.1⟩
theorem XOk.gl (o : XOk X cf sc fc G Γ xo W) {x : Str} (h : glB sc x = true) : Gl X x := by
  show X.env.scope.names.lookup x = some .globalImplicit
  rw [o.hsc]
  exact beq_iff_eq.mp h
theorem starOf {e : Expr} {es : List Expr} {env : PySem.Env} (h : argB e = true) : starEach (e :: es) env = (false, eval e env) :: starEach es env := by
  cases e <;> first | rfl | cases h
theorem foldOf {e : Expr} {env : PySem.Env} (h : argB e = true) : ∀ x, foldedSetIterable e env x = pure x := by
  intro x
  cases e <;> first | rfl | cases h
theorem ckE_star {a : Ex} {e : Expr} (h : ckE cf sc fc a e = true) : argB e = true := by
  cases e <;> first | rfl | (cases a <;> first | exact absurd (show false = true from h) (by decide) | (rename_i c; cases c <;> exact absurd (show false = true from h) (by decide)))
theorem plainOf {e : Expr} (h : plainB e = true) : PlainIx e := by
  intro o i
  cases e <;> first | rfl | cases h
end

/-! ### posts, one after another -/
section
variable {K : PySem.W.Frag} {xo : XO} {mg : Str → Option Value} {G : List D} {Γ : List Fn} {W : WX} {B : FB} {σ : L2.St} {F F1 H : Hp} {e : Env} {α β : Type}
theorem PostX.sub {r : R α} {Q : α → Env → Hp → Hp → Prop} (h : PostX K xo mg W B σ F r Q) (s : Same F F1) : PostX K xo mg W B σ F1 r Q := by
  cases r with
  | bad => exact h
  | exn c ps e => exact fun cls dx H' F' r1 s1 x => h cls dx H' F' r1 (s.trans s1) x
  | ok v e => exact fun H' F' r1 s1 => h H' F' r1 (s.trans s1)
theorem PostX.imp {r : R α} {Q Q' : α → Env → Hp → Hp → Prop} (h : PostX K xo mg W B σ F r Q) (q : ∀ a e F1 H1, Rel K xo B F1 σ H1 e → Same F F1 → Q a e F1 H1 → Q' a e F1 H1) : PostX K xo mg W B σ F r Q' := by
  cases r with
  | bad => exact h
  | exn c ps e => exact h
  | ok v e => exact fun H' F' r1 s1 => q _ _ _ _ r1 s1 (h H' F' r1 s1)
theorem bindX {r : R α} {f : α → Env → R β} {Q : β → Env → Hp → Hp → Prop} (h : PostX K xo mg W B σ F (r.bind f) Q) : PostX K xo mg W B σ F r fun a e1 F1 _ => PostX K xo mg W B σ F1 (f a e1) Q := by
  cases r with
  | bad => exact h
  | exn c ps e => exact h
  | ok v e => exact fun H' F' r1 s1 => PostX.sub h s1
theorem bindXE {r : R α} {f : α → Env → R DV} {Q : VK} (h : PostE K xo mg W B σ F (r.bind f) Q) : PostX K xo mg W B σ F r fun a e1 F1 _ => PostE K xo mg W B σ F1 (f a e1) Q := by
  cases r with
  | bad => exact h
  | exn c ps e => exact h
  | ok v e => exact fun H' F' r1 s1 => PostE.sub h s1
/-- one term, and what follows it, to some other end -/
theorem tE_bindX {a : Ex} {f : DV → Env → R β} {Q : β → Env → Hp → Hp → Prop} {T : V → Hp → Prop} (r : Rel K xo B F σ H e) (h : PostX K xo mg W B σ F ((evE G Γ a e).bind f) Q) (hf : ∀ x y e, x.fz = y.fz → f x e = f y e)
    (k : ∀ (x : D) e1 v H1 F1, Rel K xo B F1 σ H1 e1 → Same F F1 → Den K xo F1 v x → PostX K xo mg W B σ F1 (f (.d x) e1) Q → T v H1) : tE K xo mg G Γ W a σ H T := by
  refine ⟨B, F, e, r, ?_⟩
  cases q : evE G Γ a e with
  | bad => rw [q] at h; exact h.elim
  | exn c ps e1 => rw [q] at h; exact h
  | ok x e1 =>
    rw [q] at h
    cases x with
    | d x => exact fun v H' F' r1 s1 x1 => k x e1 v H' F' r1 s1 x1 (PostX.sub h s1)
    | fr ds =>
      refine fun p vs H' F' r1 s1 hp hF x1 h0 ho => ?_
      have s2 := s1.trans (same_upd (o := HO.lst vs) hF)
      have h' : PostX K xo mg W B σ F (f (.d (.list ds)) e1) Q := by
        rw [← hf (.fr ds) (.d (.list ds)) e1 rfl]
        exact h
      exact k (.list ds) e1 (.ref p) H' (upd F' p (.lst vs)) (r1.freeze hF hp h0 ho) s2 (.lst upd_same (x1.mono (same_upd hF))) (PostX.sub h' s2)
end

/-! ### targets -/
section
variable {K : PySem.W.Frag} {xo : XO} {B : FB} {F H : Hp} {σ : L2.St} {e : Env}
def gT (K : PySem.W.Frag) (xo : XO) (t : Tg) : TG := fun v σ H Q => ∃ B F e d e2, Rel K xo B F σ H e ∧ Den K xo F v d ∧ bindT t d e = some e2 ∧ ∀ σ', Rel K xo B F σ' H e2 → (∀ k, k ∉ tgS t → σ'[k]? = σ[k]?) → Q σ' H
def gTs (K : PySem.W.Frag) (xo : XO) (ts : List Tg) : TGs := fun vs σ H Q => ∃ B F e ds e2, Rel K xo B F σ H e ∧ DenAll K xo F vs ds ∧ bindTs ts ds e = some e2 ∧ ∀ σ', Rel K xo B F σ' H e2 → (∀ k, k ∉ tgSs ts → σ'[k]? = σ[k]?) → Q σ' H
end
theorem PG.imp {X : Cx} {e : Expr} {t t' : TG} (h : PG X e t) (i : ∀ v σ H Q, t' v σ H Q → t v σ H Q) : PG X e t' := ⟨fun pins s σ H v u Q I r q => h.run pins s σ H v u Q I r (i v σ H Q q)⟩
theorem PGs.imp {X : Cx} {e : List Expr} {t t' : TGs} (h : PGs X e t) (i : ∀ v σ H Q, t' v σ H Q → t v σ H Q) : PGs X e t' := ⟨fun pins s σ H v u Q I r q => h.run pins s σ H v u Q I r (i v σ H Q q)⟩
section
variable {X : Cx} {cf : Cf} {sc : Scope} {fc : Option Scope} {G : List D} {Γ : List Fn} {xo : XO} {W : WX}
theorem assignOf {cf : Cf} {t : Tg} {e : Expr} (h : ckTg cf sc fc t e = true) (es : List Expr) (env : PySem.Env) : assignEach (e :: es) env = (false, assign e env) :: assignEach es env := by
  cases e <;> first | rfl | (cases t <;> exact nomatch h)
theorem ckTgs_len {cf : Cf} : ∀ {ts : List Tg} {es : List Expr} {env : PySem.Env}, ckTgs cf sc fc ts es = true → (assignEach es env).length = ts.length ∧ (assignEach es env).findIdx? (·.1) = none
  | [], [], _, _ => ⟨rfl, rfl⟩
  | t :: ts, e :: es, env, h => by
    have h' : (ckTg cf sc fc t e && ckTgs cf sc fc ts es) = true := h
    rw [Bool.and_eq_true] at h'
    obtain ⟨q1, q2⟩ := ckTgs_len (env := env) h'.2
    rw [assignOf h'.1]
    refine ⟨by simp [q1], ?_⟩
    rw [List.findIdx?_cons]
    simp [q2]
  | [], _ :: _, _, h => nomatch h
  | _ :: _, [], _, h => nomatch h
mutual
theorem pg_ok (o : XOk X cf sc fc G Γ xo W) : ∀ (t : Tg) (e : Expr), ckTg cf sc fc t e = true → PG X e (gT X.K xo t)
  | .nm i, e, h => by
    cases e with
    | Name x pos =>
      have h' : (atB cf.N i x && stB sc fc x) = true := h
      rw [Bool.and_eq_true] at h'
      have hl : Loc X.env.scope x := by rw [o.hsc]; exact stB_loc h'.2
      refine PG.imp (pg_name (i := i) (by rw [o.hN]; exact o.nd) (by rw [o.hN]; exact atB_e h'.1) hl (o.fn x h'.2)) fun v σ H Q q => ?_
      obtain ⟨B, F, e, d, e2, r, dv, hb, k⟩ := q
      have hb' := Option.some.inj hb
      subst hb'
      refine k _ (r.setVal dv) fun j hj => ?_
      have ne : i ≠ j := fun z => hj (by rw [z]; exact List.mem_singleton.mpr rfl)
      rw [List.getElem?_set_ne ne]
    | _ => exact nomatch h
  | .tp ts, e, h => by
    cases e with
    | Tuple es k pos =>
      have h' : ckTgs cf sc fc ts es = true := h
      obtain ⟨q1, q2⟩ := ckTgs_len (env := X.env) h'
      have ps := pgs_ok o ts es h'
      refine ⟨fun pins s σ H v u Q I rv q => ?_⟩
      obtain ⟨B, F, e, d, e2, r, dv, hb, kk⟩ := q
      have fin : ∀ {xs : List V} {ds : List D}, DenAll X.K xo F xs ds → bindTs ts ds e = some e2 → gTs X.K xo ts xs σ H Q := fun {xs ds} da hbs => ⟨B, F, e, ds, e2, r, da, hbs, kk⟩
      have len : ∀ {ts : List Tg} {ds : List D} {e e2 : Env}, bindTs ts ds e = some e2 → ds.length = ts.length := by
        intro ts
        induction ts with
        | nil => intro ds e e2 z; cases ds with
          | nil => rfl
          | cons _ _ => cases z
        | cons t ts ih => intro ds e e2 z; cases ds with
          | nil => cases z
          | cons x xs =>
            have z' : (match bindT t x e with | some e1 => bindTs ts xs e1 | none => none) = some e2 := z
            split at z'
            · simp [ih z']
            · cases z'
      cases dv with
      | tup hs da =>
        have hbs : bindTs ts _ e = some e2 := hb
        exact (pg_tup (n := ts.length) o.calm ps q1 q2).run pins s σ H _ u Q I rv ⟨_, _, rfl, sqt_mono r.sub hs, by rw [da.length, len hbs], fin da hbs⟩
      | lst hs da =>
        have hbs : bindTs ts _ e = some e2 := hb
        exact (pg_lst (n := ts.length) o.calm ps q1 q2).run pins s σ H _ u Q I rv ⟨_, _, rfl, .inl (.inl (r.sub _ _ hs)), by rw [da.length, len hbs], fin da hbs⟩
      | non => cases hb
      | bl _ => cases hb
      | int _ => cases hb
      | str _ => cases hb
      | scr _ _ => cases hb
      | exc0 _ _ => cases hb
      | exc1 _ _ _ _ => cases hb
    | _ => exact nomatch h
theorem pgs_ok (o : XOk X cf sc fc G Γ xo W) : ∀ (ts : List Tg) (es : List Expr), ckTgs cf sc fc ts es = true → PGs X es (gTs X.K xo ts)
  | [], [], _ => PGs.imp pgs_nil fun vs σ H Q q => by
    obtain ⟨B, F, e, ds, e2, r, da, hb, k⟩ := q
    cases da with
    | nil =>
      have hb' := Option.some.inj hb
      subst hb'
      exact ⟨rfl, k _ r fun _ _ => rfl⟩
    | cons _ _ => cases hb
  | t :: ts, e :: es, h => by
    have h' : (ckTg cf sc fc t e && ckTgs cf sc fc ts es) = true := h
    rw [Bool.and_eq_true] at h'
    refine PGs.imp (pgs_cons (pg_ok o t e h'.1) (pgs_ok o ts es h'.2) (by rw [assignOf h'.1]; rfl)) fun vs σ H Q q => ?_
    obtain ⟨B, F, e, ds, e2, r, da, hb, k⟩ := q
    cases da with
    | nil => cases hb
    | cons d1 dr =>
      rename_i v vr d dsr
      have z' : (match bindT t d e with | some e1 => bindTs ts dsr e1 | none => none) = some e2 := hb
      refine ⟨v, vr, rfl, ?_⟩
      cases hb1 : bindT t d e with
      | none => rw [hb1] at z'; cases z'
      | some e1 =>
        rw [hb1] at z'
        refine ⟨B, F, e, d, e1, r, d1, hb1, fun σ1 r1 k1 => ⟨B, F, e1, dsr, e2, r1, dr, z', fun σ2 r2 k2 => k σ2 r2 fun j hj => ?_⟩⟩
        have hj' : j ∉ tgS t ∧ j ∉ tgSs ts := by
          have : j ∉ tgS t ++ tgSs ts := hj
          simpa [List.mem_append, not_or] using this
        rw [k2 j hj'.2, k1 j hj'.1]
  | [], _ :: _, h => nomatch h
  | _ :: _, [], h => nomatch h
end
end
end DL


set_option Elab.async false
set_option linter.all false
set_option maxRecDepth 100000
set_option maxHeartbeats 2000000
/-! DL14: a comprehension's turns by data. -/
namespace DL
open PySem PySem.Spec PyProof.Rows L2

section
variable {K : PySem.W.Frag} {xo : XO} {B : FB} {F F' H H' : Hp} {σ σ' : L2.St} {e e' : Env}
/-- fewer slots held -/
theorem Rel.part (r : Rel K xo B F σ H e) (hl : σ'.length = e'.length) (h : ∀ (i : Nat) s, e'[i]? = some s → s = .un ∨ (e[i]? = some s ∧ σ'[i]? = σ[i]?)) : Rel K xo B F σ' H e' where
  sub := r.sub
  sub0 := r.sub0
  new := r.new
  hpa := r.hpa
  keep := r.keep
  tbk := r.tbk
  tabs := r.tabs
  ob := r.ob
  len := hl
  val := fun i d q => by
    rcases h i _ q with z | ⟨z1, z2⟩
    · cases z
    · rw [z2]; exact r.val i d z1
  own := fun i p ds q => by
    rcases h i _ q with z | ⟨z1, z2⟩
    · cases z
    · rw [z2]; exact r.own i p ds z1
  sep := fun i j a p q ds es h1 h2 h3 h4 => by
    rcases h i _ h1 with z | ⟨z1, z2⟩
    · cases z
    · rcases h j _ h2 with y | ⟨y1, y2⟩
      · cases y
      · rw [z2] at h3
        rw [y2] at h4
        exact r.sep i j a p q ds es z1 y1 h3 h4
/-- a list that no slot holds is written -/
theorem Rel.writeFree (r : Rel K xo B F σ H e) {p : Addr} {o : HO} (hF : F p = none) (h0 : B.H0 p = none) (ho : ∀ (i : Nat) pp ds, e[i]? = some (.own pp ds) → σ[i]? ≠ some (some (.ref p))) (tb : LamX.Tabs xo.T (upd H p o)) : Rel K xo B F σ (upd H p o) e where
  sub := fun a u q => by
    have ne : a ≠ p := fun z => by rw [z, hF] at q; cases q
    rw [upd_ne ne]; exact r.sub a u q
  sub0 := r.sub0
  new := r.new
  hpa := r.hpa
  keep := fun a u q z t => by
    have ne : a ≠ p := fun z => by rw [z, h0] at q; cases q
    rw [upd_ne ne]; exact r.keep a u q z t
  tbk := fun a ps q => by
    have ne : a ≠ p := fun z => by rw [z, h0] at q; cases q
    rw [upd_ne ne]; exact r.tbk a ps q
  tabs := tb
  ob := fun a z => by
    by_cases q : a = p
    · subst q; rw [upd_same]; exact fun x => nomatch x
    · rw [upd_ne q]; exact r.ob a z
  len := r.len
  val := r.val
  own := fun i pp ds q => by
    obtain ⟨a, vs, h1, h2, h3, h4, h5⟩ := r.own i pp ds q
    have ne : a ≠ p := fun z => ho i pp ds q (by rw [← z]; exact h1)
    exact ⟨a, vs, h1, by rw [upd_ne ne]; exact h2, h3, h4, h5⟩
  sep := r.sep
theorem wipeE_len (e : Env) : ∀ vs : List Nat, (wipeE e vs).length = e.length
  | [] => rfl
  | v :: vs => by
    show ((wipeE e vs).set v .un).length = _
    rw [List.length_set, wipeE_len e vs]
theorem wipeE_get {e : Env} {i : Nat} {s : Slot} : ∀ {vs : List Nat}, (wipeE e vs)[i]? = some s → s = .un ∨ (i ∉ vs ∧ e[i]? = some s)
  | [], h => .inr ⟨by simp, h⟩
  | v :: vs, h => by
    rcases getSet h with ⟨_, z⟩ | ⟨z, h⟩
    · exact .inl z
    · rcases wipeE_get h with y | ⟨y1, y2⟩
      · exact .inl y
      · exact .inr ⟨by simp only [List.mem_cons, not_or]; exact ⟨fun q => z q.symm, y1⟩, y2⟩
theorem wipe_get {σ : L2.St} {i : Nat} : ∀ {vs : List Nat}, i ∉ vs → (wipe σ vs)[i]? = σ[i]?
  | [], _ => rfl
  | v :: vs, h => by
    simp only [List.mem_cons, not_or] at h
    show ((wipe σ vs).set v none)[i]? = _
    rw [List.getElem?_set_ne (fun z => h.1 z.symm), wipe_get h.2]
theorem wipe_cong {σ σ2 : L2.St} {i : Nat} {vs : List Nat} (h : wipe σ2 vs = wipe σ vs) (hi : i ∉ vs) : σ2[i]? = σ[i]? := by
  rw [← wipe_get (σ := σ2) hi, h, wipe_get hi]
theorem wipe_out {σ σ2 : L2.St} {vs : List Nat} (hl : σ2.length = σ.length) (h : ∀ i, i ∉ vs → σ2[i]? = (wipe σ vs)[i]?) : wipe σ2 vs = wipe σ vs := by
  have key : ∀ (us : List Nat) (i : Nat), (∀ j, j ∉ vs → j ∈ us → False) → (wipe σ2 us)[i]? = (if i ∈ us ∧ i < σ2.length then some none else σ2[i]?) ∧ (wipe σ us)[i]? = (if i ∈ us ∧ i < σ.length then some none else σ[i]?) := by
    intro us
    induction us with
    | nil => intro i _; simp [wipe]
    | cons v us ih =>
      intro i hu
      obtain ⟨h1, h2⟩ := ih i fun j hj hm => hu j hj (List.mem_cons_of_mem _ hm)
      show ((wipe σ2 us).set v none)[i]? = _ ∧ ((wipe σ us).set v none)[i]? = _
      rw [List.getElem?_set, List.getElem?_set, wipe_length, wipe_length, h1, h2]
      by_cases z : v = i
      · subst z
        simp only [if_true, List.mem_cons, true_or, true_and]
        constructor
        · split
          · rfl
          · exact (List.getElem?_eq_none (by omega)).symm
        · split
          · rfl
          · exact (List.getElem?_eq_none (by omega)).symm
      · have zi : ¬ i = v := fun q => z q.symm
        simp only [if_neg z, List.mem_cons, zi, false_or, and_self]
  apply List.ext_getElem?
  intro i
  obtain ⟨h1, h2⟩ := key vs i fun j hj hm => hj hm
  rw [h1, h2, hl]
  by_cases hi : i ∈ vs
  · by_cases hlt : i < σ.length
    · rw [if_pos ⟨hi, hlt⟩, if_pos ⟨hi, hlt⟩]
    · rw [if_neg (fun q => hlt q.2), if_neg (fun q => hlt q.2), List.getElem?_eq_none (by omega), List.getElem?_eq_none (by omega)]
  · rw [if_neg (fun q => hi q.1), if_neg (fun q => hi q.1), h i hi, wipe_get hi]
theorem Rel.wiped (r : Rel K xo B F σ H e) {σ2 : L2.St} {vs : List Nat} (h : wipe σ vs = wipe σ2 vs) : Rel K xo B F (wipe σ2 vs) H (wipeE e vs) :=
  r.part (by rw [← h, wipe_length, wipeE_len]; exact r.len) fun i s q => by
    rcases wipeE_get q with z | ⟨z1, z2⟩
    · exact .inl z
    · exact .inr ⟨z2, by rw [← h, wipe_get z1]⟩
theorem putBack_len (e0 e : Env) : ∀ vs : List Nat, (putBack e0 e vs).length = e.length
  | [] => rfl
  | v :: vs => by
    show (match e0[v]? with | some s => (putBack e0 e vs).set v s | none => putBack e0 e vs).length = _
    split
    · rw [List.length_set, putBack_len e0 e vs]
    · exact putBack_len e0 e vs
theorem putBack_get {e0 e : Env} {i : Nat} {s : Slot} (hl : e0.length = e.length) : ∀ {vs : List Nat}, (putBack e0 e vs)[i]? = some s → (i ∈ vs ∧ e0[i]? = some s) ∨ (i ∉ vs ∧ e[i]? = some s)
  | [], h => .inr ⟨by simp, h⟩
  | v :: vs, h => by
    have h' : (match e0[v]? with | some s => (putBack e0 e vs).set v s | none => putBack e0 e vs)[i]? = some s := h
    cases q : e0[v]? with
    | some t =>
      rw [q] at h'
      rcases getSet h' with ⟨z1, z2⟩ | ⟨z, h2⟩
      · subst z1 z2
        exact .inl ⟨List.mem_cons_self, q⟩
      · rcases putBack_get hl h2 with ⟨y1, y2⟩ | ⟨y1, y2⟩
        · exact .inl ⟨List.mem_cons_of_mem _ y1, y2⟩
        · exact .inr ⟨by simp only [List.mem_cons, not_or]; exact ⟨fun q => z q.symm, y1⟩, y2⟩
    | none =>
      rw [q] at h'
      have hv : e.length ≤ v := by rw [← hl]; exact List.getElem?_eq_none_iff.mp q
      rcases putBack_get hl h' with ⟨y1, y2⟩ | ⟨y1, y2⟩
      · exact .inl ⟨List.mem_cons_of_mem _ y1, y2⟩
      · refine .inr ⟨?_, y2⟩
        simp only [List.mem_cons, not_or]
        refine ⟨fun z => ?_, y1⟩
        subst z
        have := (List.getElem?_eq_some_iff.mp y2).1
        omega
theorem plainAt_e {e : Env} {vs : List Nat} (h : plainAt e vs = true) {i : Nat} (hi : i ∈ vs) {p : Bool} {ds : List D} : e[i]? ≠ some (.own p ds) := fun q => by
  have := List.all_eq_true.mp h i hi
  rw [q] at this
  cases this
/-- the block's slots are as they were -/
theorem Rel.putB {F1 H1 : Hp} {e1 : Env} {vs : List Nat} (r1 : Rel K xo B F1 σ H1 e1) (s : Same F1 F) (pl : plainAt e1 vs = true) (hl : e1.length = e.length) (r : Rel K xo B F (wipe σ vs) H (wipeE e vs)) : Rel K xo B F σ H (putBack e1 e vs) where
  sub := r.sub
  sub0 := r.sub0
  new := r.new
  hpa := r.hpa
  keep := r.keep
  tbk := r.tbk
  tabs := r.tabs
  ob := r.ob
  len := by rw [putBack_len, ← hl]; exact r1.len
  val := fun i d q => by
    rcases putBack_get hl q with ⟨_, z⟩ | ⟨z1, z2⟩
    · obtain ⟨v, g1, g2⟩ := r1.val i d z
      exact ⟨v, g1, g2.mono s⟩
    · have hw : (wipeE e vs)[i]? = some (.val d) := by
        have : ∀ {us : List Nat}, i ∉ us → (wipeE e us)[i]? = e[i]? := by
          intro us
          induction us with
          | nil => intro _; rfl
          | cons v us ih =>
            intro hi
            simp only [List.mem_cons, not_or] at hi
            show ((wipeE e us).set v .un)[i]? = _
            rw [List.getElem?_set_ne (fun z => hi.1 z.symm), ih hi.2]
        rw [this z1]; exact z2
      obtain ⟨v, g1, g2⟩ := r.val i d hw
      exact ⟨v, by rw [← wipe_get z1]; exact g1, g2⟩
  own := fun i p ds q => by
    rcases putBack_get hl q with ⟨z1, z⟩ | ⟨z1, z2⟩
    · exact absurd z (plainAt_e pl z1)
    · have hw : (wipeE e vs)[i]? = some (.own p ds) := by
        have : ∀ {us : List Nat}, i ∉ us → (wipeE e us)[i]? = e[i]? := by
          intro us
          induction us with
          | nil => intro _; rfl
          | cons v us ih =>
            intro hi
            simp only [List.mem_cons, not_or] at hi
            show ((wipeE e us).set v .un)[i]? = _
            rw [List.getElem?_set_ne (fun z => hi.1 z.symm), ih hi.2]
        rw [this z1]; exact z2
      obtain ⟨a, us, g1, g2⟩ := r.own i p ds hw
      exact ⟨a, us, by rw [← wipe_get z1]; exact g1, g2⟩
  sep := fun i j a p q ds es h1 h2 h3 h4 => by
    have un : ∀ {i : Nat} {s : Slot}, i ∉ vs → e[i]? = some s → (wipeE e vs)[i]? = some s := by
      intro i s hi hs
      have : ∀ {us : List Nat}, i ∉ us → (wipeE e us)[i]? = e[i]? := by
        intro us
        induction us with
        | nil => intro _; rfl
        | cons v us ih =>
          intro hi
          simp only [List.mem_cons, not_or] at hi
          show ((wipeE e us).set v .un)[i]? = _
          rw [List.getElem?_set_ne (fun z => hi.1 z.symm), ih hi.2]
      rw [this hi]; exact hs
    rcases putBack_get hl h1 with ⟨z1, z⟩ | ⟨z1, z2⟩
    · exact absurd z (plainAt_e pl z1)
    · rcases putBack_get hl h2 with ⟨y1, y⟩ | ⟨y1, y2⟩
      · exact absurd y (plainAt_e pl y1)
      · exact r.sep i j a p q ds es (un z1 z2) (un y1 y2) (by rw [wipe_get z1]; exact h3) (by rw [wipe_get y1]; exact h4)
end

section
variable (K : PySem.W.Frag) (xo : XO) (mg : Str → Option Value) (G : List D) (Γ : List Fn) (W : WX)
def tX {α : Type} (ev : Env → R α) (k : α → Env → Hp → Hp → Prop) (σ : L2.St) (H : Hp) : Prop := ∃ B F e, Rel K xo B F σ H e ∧ PostX K xo mg W B σ F (ev e) k
def tI (it : It) : TI := fun σ H R => tX K xo mg W (evIt G Γ it) (fun ds _ F1 H1 => ∀ J, Wk K xo J F1 ds → R J H1) σ H
def tO (o : Op) : TO := fun σ H Q => tX K xo mg W (evOp G Γ o) (fun i _ _ H1 => Q i H1) σ H
def tOT (o : Op) : TT := fun σ H Q => tX K xo mg W (evOpT G Γ o) (fun i _ _ H1 => Q i H1) σ H
def tT (a : Ex) : TT := fun σ H Q => tX K xo mg W (evT G Γ a) (fun i _ _ H1 => Q i H1) σ H
def W0 : WX := fun _ _ _ _ => False
def bodyC (x : Ex) (vs : List Nat) (g : Tg) (c : Op) : D → Env → R (Option D) := fun z e2 => match bindT g z (wipeE e2 vs) with
  | none => .bad
  | some e3 => (evOpT G Γ c e3).bind fun b e4 => if b then (evE G Γ x e4).bind fun y e5 => .ok (some y.fz) e5 else .ok none e4
def restC (x : Ex) (vs : List Nat) (g : Tg) (c : Op) (xs : List D) (e1 : Env) : R DV := if plainAt e1 vs then
      (match compGo (bodyC G Γ x vs g c) xs (wipeE e1 vs) with
      | .ok ys e6 => if ys.length ≤ lim then .ok (.fr ys) (putBack e1 e6 vs) else .bad
      | _ => .bad) else .bad
theorem evE_comp (x : Ex) (vs : List Nat) (g : Tg) (it : It) (c : Op) (e : Env) : evE G Γ (.comp x vs g it c) e = (evIt G Γ it e).bind (restC G Γ x vs g c) := rfl
end
theorem compGo_cons {f : D → Env → R (Option D)} {x : D} {xs zs : List D} {e e6 : Env} (h : compGo f (x :: xs) e = .ok zs e6) : ∃ o e1 ys, f x e = .ok o e1 ∧ compGo f xs e1 = .ok ys e6 ∧ zs = (match o with | some y => y :: ys | none => ys) := by
  have h' : (match f x e with
    | .ok o e1 => match compGo f xs e1 with
      | .ok ys e2 => R.ok (match o with | some y => y :: ys | none => ys) e2
      | _ => .bad
    | _ => .bad) = .ok zs e6 := h
  cases q : f x e with
  | bad => rw [q] at h'; cases h'
  | exn _ _ _ => rw [q] at h'; cases h'
  | ok o e1 =>
    rw [q] at h'
    cases q2 : compGo f xs e1 with
    | bad => simp only [q2] at h'; cases h'
    | exn _ _ _ => simp only [q2] at h'; cases h'
    | ok ys e2 =>
      simp only [q2] at h'
      injection h' with h1 h2
      subst h2
      exact ⟨o, e1, ys, rfl, q2, h1.symm⟩
theorem bind_ok {α β : Type} {r : R α} {f : α → Env → R β} {b : β} {e : Env} (h : r.bind f = .ok b e) : ∃ a e1, r = .ok a e1 ∧ f a e1 = .ok b e := by
  cases r with
  | ok a e1 => exact ⟨a, e1, rfl, h⟩
  | bad => cases h
  | exn _ _ _ => cases h

section
variable {K : PySem.W.Frag} {xo : XO} {mg : Str → Option Value} {G : List D} {Γ : List Fn} {W : WX} {σ : L2.St} {H : Hp} {Q : VK}
/-- lengths stay -/
theorem bindT_len : ∀ {t : Tg} {d : D} {e e2 : Env}, bindT t d e = some e2 → True := fun _ => trivial
theorem comp_ok {x : Ex} {vs : List Nat} {g : Tg} {it : It} {c : Op} (hg : ∀ i ∈ tgS g, i ∈ vs) (h : tE K xo mg G Γ W (.comp x vs g it c) σ H Q) :
    tLc (tI K xo mg G Γ W it) (gT K xo g) (tOT K xo mg G Γ W0 c) (tE K xo mg G Γ W0 x) vs σ H Q := by
  obtain ⟨B, F, e, r, h⟩ := h
  rw [evE_comp] at h
  refine ⟨B, F, e, r, PostX.imp (bindXE h) fun xs e1 F1 H1 r1 s1 hp J wk Da hDa => ?_⟩
  unfold restC at hp
  cases pl : plainAt e1 vs with
  | false => rw [pl] at hp; exact hp.elim
  | true =>
  rw [pl, if_pos rfl] at hp
  cases hc : compGo (bodyC G Γ x vs g c) xs (wipeE e1 vs) with
  | bad => rw [hc] at hp; exact hp.elim
  | exn _ _ _ => rw [hc] at hp; exact hp.elim
  | ok ys e6 =>
  rw [hc] at hp
  have hp : PostE K xo mg W B σ F1 (if ys.length ≤ lim then .ok (.fr ys) (putBack e1 e6 vs) else .bad) Q := hp
  by_cases hly : ys.length ≤ lim
  rotate_left
  · rw [if_neg hly] at hp; exact hp.elim
  rw [if_pos hly] at hp
  have h0 : B.H0 Da = none := r1.h0 hDa
  let Pv : Nat → Hp → Prop := fun i H => ∃ (F' : Hp) (e' : Env) (acc : List V) (as zs : List D), Same F1 F' ∧ Rel K xo B F' (wipe σ vs) H (wipeE e' vs) ∧ e'.length = e1.length ∧
    (∀ (k : Nat) pp ds, (wipeE e' vs)[k]? = some (.own pp ds) → (wipe σ vs)[k]? ≠ some (some (.ref Da))) ∧ H Da = some (.lst acc) ∧ F' Da = none ∧ DenAll K xo F' acc as ∧
    compGo (bodyC G Γ x vs g c) (xs.drop i) e' = .ok zs e6 ∧ as ++ zs = ys
  have wl : (wipeE e1 vs).length = e1.length := wipeE_len e1 vs
  have ww : ∀ e : Env, wipeE (wipeE e vs) vs = wipeE e vs ∨ True := fun _ => .inr trivial
  refine ⟨fun i m H => m = xs.length - i ∧ i ≤ xs.length ∧ Pv i H, ⟨_, rfl, Nat.zero_le _, ?_⟩, ?_⟩
  · have rw1 : Rel K xo B F1 (wipe σ vs) H1 (wipeE (wipeE e1 vs) vs) := by
      refine r1.part (by rw [wipe_length, wipeE_len, wl]; exact r1.len) fun i s q => ?_
      rcases wipeE_get q with z | ⟨z1, z2⟩
      · exact .inl z
      · rcases wipeE_get z2 with y | ⟨y1, y2⟩
        · exact .inl y
        · exact .inr ⟨y2, wipe_get z1⟩
    exact ⟨F1, wipeE e1 vs, [], [], ys, Same.refl _, rw1.fresh hDa, wl, fun k pp ds q => rw1.ownNe hDa k pp ds q, upd_same, r1.f0 hDa, .nil, hc, rfl⟩
  · rintro i m H2 ⟨rfl, hi, F', e', acc, as, zs, s', R', le, no, hD, hF, da, hgo, hz⟩
    obtain ⟨wgo, wst⟩ := wk s' R'
    by_cases hlt : i < xs.length
    rotate_left
    · -- the end
      have ei : i = xs.length := by omega
      subst ei
      refine .inl ⟨wst, ?_⟩
      rw [List.drop_length] at hgo
      injection hgo with e1' e2'
      subst e2'
      rw [← e1', List.append_nil] at hz
      subst hz
      have RP : Rel K xo B F' σ H2 (putBack e1 e' vs) := r1.putB s' pl le.symm R'
      refine hp Da acc H2 F' RP s' hD hF da (.inl h0) fun k pp ds q => ?_
      rcases putBack_get le.symm q with ⟨z1, z⟩ | ⟨z1, z2⟩
      · exact absurd z (plainAt_e pl z1)
      · rw [← wipe_get z1]
        refine no k pp ds ?_
        have : ∀ {us : List Nat}, k ∉ us → (wipeE e' us)[k]? = e'[k]? := by
          intro us
          induction us with
          | nil => intro _; rfl
          | cons v us ih =>
            intro hi
            simp only [List.mem_cons, not_or] at hi
            show ((wipeE e' us).set v .un)[k]? = _
            rw [List.getElem?_set_ne (fun z => hi.1 z.symm), ih hi.2]
        rw [this z1]; exact z2
    · -- a turn
      have hx : xs[i]? = some xs[i] := by simp [hlt]
      obtain ⟨go, yl⟩ := wgo i _ hx
      refine .inr ⟨go, Pv (i + 1), fun H' q => ⟨xs.length - (i + 1), by omega, rfl, hlt, q⟩, fun xv H3 y3 => ?_⟩
      -- at this ground
      obtain ⟨wgo2, _⟩ := wk s' R'.now
      obtain ⟨_, yl2⟩ := wgo2 i _ hx
      obtain ⟨F3, s3, R3, d3⟩ := yl2 xv H3 y3
      have hD3 : H3 Da = some (.lst acc) := R3.keep Da _ hD (fun ⟨k, pp, ds, q1, q2⟩ => no k pp ds q1 q2) (fun ps e => nomatch e)
      have hF3 : F3 Da = none := by
        cases z : F3 Da with
        | none => rfl
        | some o =>
          rcases R3.new Da (by rw [z]; exact fun z => nomatch z) with q | q | ⟨⟨k, pp, ds, q1, q2⟩, _⟩
          · exact absurd hF q
          rotate_left
          · exact absurd q2 (no k pp ds q1)
          · have q' : H2 Da = none := q
            rw [hD] at q'; cases q'
      have R3' : Rel K xo B F3 (wipe σ vs) H3 (wipeE e' vs) := R'.back R3
      have no3 := no
      rw [List.drop_eq_getElem_cons hlt] at hgo
      obtain ⟨o, e7, ys7, hf, hgo7, hzs⟩ := compGo_cons hgo
      unfold bodyC at hf
      cases hb : bindT g xs[i] (wipeE e' vs) with
      | none => rw [hb] at hf; cases hf
      | some e3 =>
      rw [hb] at hf
      obtain ⟨b, e4, hT, hf⟩ := bind_ok hf
      have RN : Rel K xo (B.now F3 H3 (wipe σ vs) (wipeE e' vs)) F3 (wipe σ vs) H3 (wipeE e' vs) := R3'.now
      refine ⟨B.now F3 H3 (wipe σ vs) (wipeE e' vs), F3, wipeE e' vs, xs[i], e3, RN, d3, hb, fun σ2 R4 k4 => ?_⟩
      have hl2 : σ2.length = σ.length := by
        have a1 := R4.len
        have a2 : e3.length = (wipeE e' vs).length := by
          have bl : ∀ {t : Tg} {d : D} {e e2 : Env}, bindT t d e = some e2 → e2.length = e.length := by
            intro t
            refine Tg.rec (motive_1 := fun t => ∀ {d : D} {e e2 : Env}, bindT t d e = some e2 → e2.length = e.length) (motive_2 := fun ts => ∀ {ds : List D} {e e2 : Env}, bindTs ts ds e = some e2 → e2.length = e.length) ?_ ?_ ?_ ?_ t
            · intro i d e e2 z
              have z' := Option.some.inj z
              rw [← z', List.length_set]
            · intro ts ih d e e2 z
              cases d with
              | tuple xs => exact ih (ds := xs) z
              | list xs => exact ih (ds := xs) z
              | none => cases z
              | bool _ => cases z
              | int _ => cases z
              | str _ => cases z
              | dict _ => cases z
            · intro ds e e2 z
              cases ds with
              | nil => have z' := Option.some.inj z; rw [z']
              | cons _ _ => cases z
            · intro t ts ih1 ih2 ds e e2 z
              cases ds with
              | nil => cases z
              | cons d ds =>
                have z' : (match bindT t d e with | some e1 => bindTs ts ds e1 | none => none) = some e2 := z
                split at z'
                · rename_i e1' hh
                  rw [ih2 z', ih1 hh]
                · cases z'
          exact bl hb
        rw [a1, a2, wipeE_len, le]
        exact r1.len.symm
      have hw2 : wipe σ2 vs = wipe σ vs := wipe_out hl2 fun j hj => k4 j fun z => hj (hg j z)
      refine ⟨hw2, _, _, _, R4, ?_⟩
      show PostX K xo mg W0 _ σ2 F3 (evOpT G Γ c e3) _
      rw [hT]
      intro H5 F5 R5 s5
      -- behind the test, behind the item: the same end
      have fin : ∀ {e8 : Env} {F8 H8 : Hp}, Rel K xo (B.now F3 H3 (wipe σ vs) (wipeE e' vs)) F8 σ2 H8 e8 → Same F3 F8 → Rel K xo B F8 (wipe σ vs) H8 (wipeE e8 vs) ∧ e8.length = e1.length ∧
          (∀ (k : Nat) pp ds, (wipeE e8 vs)[k]? = some (.own pp ds) → (wipe σ vs)[k]? ≠ some (some (.ref Da))) ∧ H8 Da = some (.lst acc) ∧ F8 Da = none := fun {e8 F8 H8} R8 s8 => by
        have RB : Rel K xo B F8 σ2 H8 e8 := R3'.back R8
        have RW : Rel K xo B F8 (wipe σ vs) H8 (wipeE e8 vs) := RB.wiped hw2
        refine ⟨RW, by rw [← R8.len, hl2, r1.len], fun k pp ds q z => ?_, R8.keep Da _ hD3 (fun ⟨k, pp, ds, q1, q2⟩ => no k pp ds q1 q2) (fun ps e => nomatch e), ?_⟩
        · rcases wipeE_get q with y | ⟨y1, y2⟩
          · cases y
          · rw [← hw2, wipe_get y1] at z
            obtain ⟨a, us, g1, g2, g3, g4, g5, g6⟩ := R8.own k pp ds y2
            rw [g1] at z
            injection z with z
            injection z with z
            injection z with z
            subst z
            rcases g5 with ⟨j, pp', ds', q1, q2⟩ | g5
            · exact no j pp' ds' q1 q2
            · have g5' : H3 a = none := g5
              rw [hD3] at g5'; cases g5'
        · cases z : F8 Da with
          | none => rfl
          | some o' =>
            rcases R8.new Da (by rw [z]; exact fun z => nomatch z) with q | q | ⟨⟨k, pp, ds, q1, q2⟩, _⟩
            · exact absurd hF3 q
            rotate_left
            · exact absurd q2 (no k pp ds q1)
            · have q' : H3 Da = none := q
              rw [hD3] at q'; cases q'
      cases b with
      | false =>
        rw [if_neg Bool.false_ne_true] at hf
        show (if false = true then _ else Pv (i + 1) H5)
        rw [if_neg Bool.false_ne_true]
        injection hf with f1 f2
        subst f1 f2
        obtain ⟨a1, a2, a3, a4, a5⟩ := fin R5 s5
        exact ⟨F5, e4, acc, as, ys7, (s'.trans s3).trans s5, a1, a2, a3, a4, a5, da.mono (s3.trans s5), hgo7, by rw [← hz, hzs]⟩
      | true =>
        rw [if_pos rfl] at hf
        show (if true = true then tE K xo mg G Γ W0 x σ2 H5 (fun y H4 => ∃ acc, H4 Da = some (.lst acc) ∧ acc.length < sizeLine ∧ Pv (i + 1) (upd H4 Da (.lst (acc ++ [y])))) else _)
        rw [if_pos rfl]
        obtain ⟨yv, e5, hE, hf⟩ := bind_ok hf
        injection hf with f1 f2
        subst f1 f2
        refine ⟨_, _, _, R5, ?_⟩
        rw [hE]
        have step : ∀ (v : V) (H8 F8 : Hp), Rel K xo (B.now F3 H3 (wipe σ vs) (wipeE e' vs)) F8 σ2 H8 e5 → Same F5 F8 → Den K xo F8 v yv.fz → ∃ acc, H8 Da = some (.lst acc) ∧ acc.length < sizeLine ∧ Pv (i + 1) (upd H8 Da (.lst (acc ++ [v]))) := fun v H8 F8 R8 s8 dv => by
          obtain ⟨a1, a2, a3, a4, a5⟩ := fin R8 (s5.trans s8)
          have hzs' : zs = yv.fz :: ys7 := hzs
          refine ⟨acc, a4, ?_, F8, e5, acc ++ [v], as ++ [yv.fz], ys7, ((s'.trans s3).trans s5).trans s8, a1.writeFree a5 h0 a3 (tabs_lst a4 a1.tabs), a2, a3, upd_same, a5, (da.mono ((s3.trans s5).trans s8)).append (.cons dv .nil), hgo7, by rw [← hz, hzs']; simp⟩
          have : acc.length < lim := by
            rw [da.length]
            have : as.length + (yv.fz :: ys7).length ≤ lim := by rw [← List.length_append, ← hzs', hz]; exact hly
            simp at this
            omega
          exact lim_lt this
        cases yv with
        | d dd => exact fun v H8 F8 R8 s8 dv => step v H8 F8 R8 s8 dv
        | fr ds => exact fun p us H8 F8 R8 s8 hp8 hF8 da8 h08 ho8 => step (.ref p) H8 (upd F8 p (.lst us)) (R8.freeze hF8 hp8 h08 ho8) (s8.trans (same_upd hF8)) (.lst upd_same (da8.mono (same_upd hF8)))
end
end DL


set_option Elab.async false
set_option linter.all false
set_option maxRecDepth 100000
set_option maxHeartbeats 2000000
/-! DL15: each term's reading, by the library's readings. -/
namespace DL
open PySem PySem.Spec PyProof.Rows L2

section
variable {K : PySem.W.Frag} {xo : XO} {mg : Str → Option Value} {G : List D} {Γ : List Fn} {W : WX} {B : FB} {σ : L2.St} {F F1 H : Hp} {e : Env} {Q : VK} {α β : Type}
theorem set_self {l : List α} {i : Nat} {x : α} (h : l[i]? = some x) : l.set i x = l := by
  apply List.ext_getElem?
  intro j
  by_cases z : i = j
  · subst z
    rw [List.getElem?_set_self (List.getElem?_eq_some_iff.mp h).1, h]
  · rw [List.getElem?_set_ne z]
/-- a list of one's own, given out of its slot -/
theorem Rel.take (r : Rel K xo B F σ H e) {i : Nat} {ds : List D} (q : e[i]? = some (.own false ds)) : ∃ (a : Addr) (vs : List V), σ[i]? = some (some (.ref a)) ∧ H a = some (.lst vs) ∧ F a = none ∧ DenAll K xo F vs ds ∧ B.mine a ∧
    Rel K xo B F σ H (e.set i .un) ∧ ∀ (j : Nat) pp es, (e.set i .un)[j]? = some (.own pp es) → σ[j]? ≠ some (some (.ref a)) := by
  obtain ⟨a, vs, g1, g2, g3, g4, g5, g6⟩ := r.own i false ds q
  refine ⟨a, vs, g1, g2, g3, g4, ?_, r.forget i, fun j pp es h1 h2 => ?_⟩
  · rcases g5 with g5 | g5
    · exact .inr ⟨g5, fun z => nomatch g6.mpr z⟩
    · exact .inl g5
  · rcases getSet h1 with ⟨_, z⟩ | ⟨z, h1⟩
    · cases z
    · exact z (r.sep i j a _ _ _ _ q h1 g1 h2)
/-- .. frozen in its slot -/
theorem Rel.frz (r : Rel K xo B F σ H e) {i : Nat} {ds : List D} (q : e[i]? = some (.own false ds)) : ∃ (a : Addr) (F' : Hp), σ[i]? = some (some (.ref a)) ∧ Same F F' ∧ Den K xo F' (.ref a) (.list ds) ∧ Rel K xo B F' σ H (e.set i (.val (.list ds))) := by
  obtain ⟨a, vs, g1, g2, g3, g4, g5, r1, g6⟩ := r.take q
  have s := same_upd (o := HO.lst vs) g3
  have dn : Den K xo (upd F a (.lst vs)) (.ref a) (.list ds) := .lst upd_same (g4.mono s)
  have r2 := (r1.freeze g3 g2 g5 g6).setVal (i := i) dn
  rw [set_self g1, List.set_set] at r2
  exact ⟨a, _, g1, s, dn, r2⟩
/-- all lists of one's own frozen for a look, and given back -/
theorem Rel.pk (r : Rel K xo B F σ H e) : ∃ (B' : FB) (F' : Hp), Rel K xo B' F' σ H (e.map Slot.fz) ∧ ∀ (F2 H' : Hp) (e1 : Env), Rel K xo B' F2 σ H' e1 → Rel K xo B F σ H' e := by
  classical
  let P : Addr → Prop := fun a => ∃ (i : Nat) (p : Bool) (ds : List D), e[i]? = some (.own p ds) ∧ σ[i]? = some (some (.ref a))
  let F' : Hp := fun a => if P a then H a else F a
  have hP : ∀ a, P a → F' a = H a := fun a h => if_pos h
  have hF : Same F F' := fun a o q => by
    by_cases z : P a
    · show (if P a then H a else F a) = some o
      rw [if_pos z]; exact r.sub a o q
    · show (if P a then H a else F a) = some o
      rw [if_neg z]; exact q
  have hH : Same F' H := fun a o q => by
    have q : (if P a then H a else F a) = some o := q
    by_cases z : P a
    · rw [if_pos z] at q; exact q
    · rw [if_neg z] at q; exact r.sub a o q
  refine ⟨⟨H, F', fun _ => False, none⟩, F', ⟨hH, Same.refl _, fun a q => .inl q, (fun a q => nomatch q), fun a o q _ _ => q, fun a ps q => ⟨ps, q⟩, r.tabs, fun a q => False.elim q, by rw [List.length_map]; exact r.len, fun i d q => ?_, fun i p ds q => ?_, fun i j a p q ds es h1 => ?_⟩, fun F2 H' e1 r1 => ?_⟩
  · rw [List.getElem?_map] at q
    cases z : e[i]? with
    | none => rw [z] at q; cases q
    | some s =>
      rw [z] at q
      cases s with
      | un => cases q
      | val x =>
        have q := Slot.val.inj (Option.some.inj (show some (Slot.val x) = some (.val d) from q))
        subst q
        obtain ⟨v, g1, g2⟩ := r.val i x z
        exact ⟨v, g1, g2.mono hF⟩
      | own p xs =>
        have q := Slot.val.inj (Option.some.inj (show some (Slot.val (.list xs)) = some (.val d) from q))
        subst q
        obtain ⟨a, vs, g1, g2, g3, g4, _⟩ := r.own i p xs z
        refine ⟨.ref a, g1, .lst ?_ (g4.mono hF)⟩
        rw [hP a ⟨i, p, xs, z, g1⟩]
        exact g2
  · rw [List.getElem?_map] at q
    cases z : e[i]? with
    | none => rw [z] at q; cases q
    | some s => rw [z] at q; cases s <;> cases q
  · rw [List.getElem?_map] at h1
    cases z : e[i]? with
    | none => rw [z] at h1; cases h1
    | some s => rw [z] at h1; cases s <;> cases h1
  · have k : ∀ a o, H a = some o → (∀ ps, o ≠ .tbl ps) → H' a = some o := fun a o q t => r1.keep a o q (fun z => z) t
    have k2 : ∀ a o, F a = some o → H' a = some o := fun a o q => r1.sub a o (r1.sub0 a o (hF a o q))
    refine ⟨k2, r.sub0, r.new, r.hpa, fun a o q z t => k a o (r.keep a o q z t) t, fun a ps q => ?_, r1.tabs, fun a z => ?_, r.len, r.val, fun i p ds q => ?_, r.sep⟩
    · obtain ⟨ps', e⟩ := r.tbk a ps q
      exact r1.tbk a ps' e
    · cases q : H a with
      | none => exact absurd q (r.ob a z)
      | some o =>
        by_cases t : ∃ ps, o = .tbl ps
        · obtain ⟨ps, rfl⟩ := t
          obtain ⟨ps', e⟩ := r1.tbk a ps q
          rw [e]; exact fun w => nomatch w
        · rw [k a o q (fun ps e => t ⟨ps, e⟩)]; exact fun w => nomatch w
    · obtain ⟨a, vs, g1, g2, g3⟩ := r.own i p ds q
      exact ⟨a, vs, g1, k a _ g2 (fun ps e => nomatch e), g3⟩
/-- flat data stands at its value anywhere -/
theorem den_flat {F1 F2 : Hp} {v : V} {d : D} (h : Den K xo F1 v d) (hf : flat d = true) : Den K xo F2 v d := by
  cases h <;> first | exact .non | exact .bl _ | exact .int _ | exact .str _ | cases hf
theorem sem_peek {a : Ex} (h : tE K xo mg G Γ W (.peek a) σ H Q) : tE K xo mg G Γ W a σ H Q := by
  obtain ⟨B, F, e, r, h⟩ := h
  have h : PostE K xo mg W B σ F (match evE G Γ a (e.map Slot.fz) with
    | .ok x _ => if flat x.fz then R.ok (.d x.fz) e else .bad
    | .exn c [] _ => .exn c [] e
    | _ => .bad) Q := h
  obtain ⟨B', F', r1, bk⟩ := r.pk
  refine ⟨B', F', _, r1, ?_⟩
  cases q : evE G Γ a (e.map Slot.fz) with
  | bad => rw [q] at h; exact h
  | exn c ps e1 =>
    rw [q] at h
    cases ps with
    | cons _ _ => exact h.elim
    | nil => exact fun cls dx H' F2 r2 s2 x => h cls dx H' F (bk F2 H' e1 r2) (Same.refl _) x
  | ok x e1 =>
    rw [q] at h
    cases x with
    | fr xs => exact h.elim
    | d x =>
      have h : PostE K xo mg W B σ F (if flat x then R.ok (.d x) e else .bad) Q := h
      by_cases hf : flat x = true
      · rw [if_pos hf] at h
        exact fun v H' F2 r2 s2 dv => h v H' F (bk F2 H' e1 r2) (Same.refl _) (den_flat dv hf)
      · rw [if_neg hf] at h
        exact h.elim
theorem sem_peekT {a : Ex} {Q : Bool → Hp → Prop} (h : tT K xo mg G Γ W (.peek a) σ H Q) : tT K xo mg G Γ W a σ H Q := by
  obtain ⟨B, F, e, r, h⟩ := h
  have h : PostX K xo mg W B σ F ((match evE G Γ a (e.map Slot.fz) with
    | .ok x _ => if flat x.fz then R.ok (DV.d x.fz) e else .bad
    | .exn c [] _ => .exn c [] e
    | _ => .bad).bind fun x e1 => toR (tru x.fz) e1) (fun i _ _ H1 => Q i H1) := h
  obtain ⟨B', F', r1, bk⟩ := r.pk
  refine ⟨B', F', _, r1, ?_⟩
  show PostX K xo mg W B' σ F' ((evE G Γ a (e.map Slot.fz)).bind fun x e1 => toR (tru x.fz) e1) (fun i _ _ H1 => Q i H1)
  cases q : evE G Γ a (e.map Slot.fz) with
  | bad => rw [q] at h; exact h
  | exn c ps e1 =>
    rw [q] at h
    cases ps with
    | cons _ _ => exact h.elim
    | nil => exact fun cls dx H' F2 r2 s2 x => h cls dx H' F (bk F2 H' e1 r2) (Same.refl _) x
  | ok x e1 =>
    rw [q] at h
    have h : PostX K xo mg W B σ F ((if flat x.fz then R.ok (DV.d x.fz) e else .bad).bind fun x e1 => toR (tru x.fz) e1) (fun i _ _ H1 => Q i H1) := h
    by_cases hf : flat x.fz = true
    · rw [if_pos hf] at h
      have h : PostX K xo mg W B σ F (toR (tru x.fz) e) (fun i _ _ H1 => Q i H1) := h
      show PostX K xo mg W B' σ F' (toR (tru x.fz) e1) (fun i _ _ H1 => Q i H1)
      cases z : tru x.fz with
      | none => rw [z] at h; exact h.elim
      | some b =>
        rw [z] at h
        exact fun H' F2 r2 s2 => h H' F (bk F2 H' e1 r2) (Same.refl _)
    · rw [if_neg hf] at h
      exact h.elim
theorem sem_olst {i : Nat} (h : tE K xo mg G Γ W (.olst i) σ H Q) : tCB (fun xs H Q => ∃ p ys, xs = [V.ref p] ∧ (SqL K H p ys ∨ SqT K H p ys) ∧ ∀ l, H l = none → Q (.ref l) (upd H l (.lst ys))) (tCons (tVar i) tNil) σ H Q := by
  obtain ⟨B, F, e, r, h⟩ := h
  have h : PostE K xo mg W B σ F (match e[i]? with
    | some (.own _ xs) => R.ok (DV.fr xs) e
    | _ => R.bad) Q := h
  cases q : e[i]? with
  | none => rw [q] at h; exact h.elim
  | some s =>
    rw [q] at h
    cases s with
    | un => exact h.elim
    | val _ => exact h.elim
    | own p xs =>
      obtain ⟨a, vs, g1, g2, g3, g4, _⟩ := r.own i p xs q
      exact ⟨.ref a, g1, a, vs, rfl, .inl (.inl (.inl g2)), post_lst r h g4⟩
theorem toR_E {o : Option DV} (h : PostE K xo mg W B σ F (toR o e) Q) : ∃ a, o = some a ∧ PostE K xo mg W B σ F (.ok a e) Q := by
  cases o with
  | none => exact h.elim
  | some a => exact ⟨a, rfl, h⟩
theorem toR_X {o : Option α} {Q : α → Env → Hp → Hp → Prop} (h : PostX K xo mg W B σ F (toR o e) Q) : ∃ a, o = some a ∧ PostX K xo mg W B σ F (.ok a e) Q := by
  cases o with
  | none => exact h.elim
  | some a => exact ⟨a, rfl, h⟩
theorem tE_mono {a : Ex} {T T' : VK} (h : tE K xo mg G Γ W a σ H T) (q : ∀ v H, T v H → T' v H) : tE K xo mg G Γ W a σ H T' := by
  obtain ⟨B, F, e, r, h⟩ := h
  exact ⟨B, F, e, r, PostE.imp h q⟩
/-- a test by its value's truth -/
theorem sem_truth {a : Ex} {Q : Bool → Hp → Prop} (h : tT K xo mg G Γ W a σ H Q) : tE K xo mg G Γ W a σ H fun v H' => ∃ k, TruV K v H' k ∧ Q k H' := by
  obtain ⟨B, F, e, r, h⟩ := h
  refine tE_bindX (f := fun x e1 => toR (tru x.fz) e1) r h (fun x y e q => by rw [q]) fun x e1 v H1 F1 r1 s1 dv hp => ?_
  obtain ⟨b, eb, hp⟩ := toR_X hp
  exact ⟨b, den_tru (r1.den dv) eb, hp H1 F1 r1 (Same.refl _)⟩
theorem sem_lit {c : D} {v : V} (h : tE K xo mg G Γ W (.lit c) σ H Q) (d : ∀ F, Den K xo F v c) : Q v H := by
  obtain ⟨B, F, e, r, h⟩ := h
  exact post_val r h (d F)
theorem sem_v {i : Nat} (h : tE K xo mg G Γ W (.v i) σ H Q) : tVar i σ H Q := by
  obtain ⟨B, F, e, r, h⟩ := h
  have h : PostE K xo mg W B σ F (match e[i]? with
    | some (.val x) => R.ok (DV.d x) e
    | _ => R.bad) Q := h
  cases q : e[i]? with
  | none => rw [q] at h; exact h.elim
  | some s =>
    rw [q] at h
    cases s with
    | un => exact h.elim
    | own _ _ => exact h.elim
    | val x =>
      obtain ⟨v, g1, g2⟩ := r.val i x q
      exact ⟨v, g1, post_val r h g2⟩
theorem sem_frz {i : Nat} (h : tE K xo mg G Γ W (.frz i) σ H Q) : tVar i σ H Q := by
  obtain ⟨B, F, e, r, h⟩ := h
  have h : PostE K xo mg W B σ F (match e[i]? with
    | some (.own false xs) => R.ok (DV.d (.list xs)) (e.set i (.val (.list xs)))
    | _ => R.bad) Q := h
  cases q : e[i]? with
  | none => rw [q] at h; exact h.elim
  | some s =>
    rw [q] at h
    cases s with
    | un => exact h.elim
    | val _ => exact h.elim
    | own p xs =>
      cases p with
      | true => exact h.elim
      | false =>
        obtain ⟨a, F', g1, g2, g3, g4⟩ := r.frz q
        exact ⟨.ref a, g1, h _ _ _ g4 g2 g3⟩
theorem sem_tk {i : Nat} (h : tE K xo mg G Γ W (.tk i) σ H Q) : tVar i σ H Q := by
  obtain ⟨B, F, e, r, h⟩ := h
  have h : PostE K xo mg W B σ F (match e[i]? with
    | some (.own false xs) => .ok (.fr xs) (e.set i .un)
    | _ => R.bad) Q := h
  cases q : e[i]? with
  | none => rw [q] at h; exact h.elim
  | some s =>
    rw [q] at h
    cases s with
    | un => exact h.elim
    | val _ => exact h.elim
    | own p xs =>
      cases p with
      | true => exact h.elim
      | false =>
        obtain ⟨a, vs, g1, g2, g3, g4, g5, g6, g7⟩ := r.take q
        exact ⟨.ref a, g1, h a vs H F g6 (Same.refl _) g2 g3 g4 g5 g7⟩
theorem sem_bin {o : Bop} {a b : Ex} (h : tE K xo mg G Γ W (.bin o a b) σ H Q) : tOp (rBin K xo mg W o) (tE K xo mg G Γ W a) (tE K xo mg G Γ W b) σ H Q := by
  obtain ⟨B, F, e, r, h⟩ := h
  have h : PostE K xo mg W B σ F ((evE G Γ a e).bind fun x e1 => (evE G Γ b e1).bind fun y e2 => toR (bin o x.fz y.fz) e2) Q := h
  refine tE_bind r h (fun x y e q => by rw [q]) fun x e1 v H1 F1 r1 s1 dv hp => ?_
  refine tE_bind r1 hp (fun x y e q => by rw [q]) fun y e2 u H2 F2 r2 s2 du hp => ?_
  obtain ⟨dd, ed, hp⟩ := toR_E hp
  exact ⟨B, F2, σ, e2, x, y, dd, r2, dv.mono s2, du, ed, hp⟩
theorem sem_neg {a : Ex} (h : tE K xo mg G Γ W (.neg a) σ H Q) : tUn (rU fun i => .int (-i)) (tE K xo mg G Γ W a) σ H Q := by
  obtain ⟨B, F, e, r, h⟩ := h
  have h : PostE K xo mg W B σ F ((evE G Γ a e).bind fun x e1 => match x.fz with
    | .int i => R.ok (DV.d (.int (-i))) e1
    | _ => R.bad) Q := h
  refine tE_bind r h (fun x y e q => by rw [q]) fun x e1 v H1 F1 r1 s1 dv hp => ?_
  cases x with
  | int i =>
    cases dv
    exact ⟨i, rfl, post_val r1 hp (.int _)⟩
  | none => exact hp.elim
  | bool _ => exact hp.elim
  | str _ => exact hp.elim
  | list _ => exact hp.elim
  | tuple _ => exact hp.elim
  | dict _ => exact hp.elim
theorem sem_no {a : Ex} (h : tE K xo mg G Γ W (.no a) σ H Q) : tNotT K (tE K xo mg G Γ W a) σ H Q := by
  obtain ⟨B, F, e, r, h⟩ := h
  have h : PostE K xo mg W B σ F ((evE G Γ a e).bind fun x e1 => match tru x.fz with
    | some b => R.ok (DV.d (.bool (!b))) e1
    | none => R.bad) Q := h
  refine tE_bind r h (fun x y e q => by rw [q]) fun x e1 v H1 F1 r1 s1 dv hp => ?_
  have hp : PostE K xo mg W B σ F1 (match tru x with
    | some b => R.ok (DV.d (.bool (!b))) e1
    | none => R.bad) Q := hp
  cases et : tru x with
  | none => rw [et] at hp; exact hp.elim
  | some b =>
    rw [et] at hp
    exact ⟨b, den_tru (r1.den dv) et, post_val r1 hp (.bl _)⟩
theorem sem_noT {a : Ex} {Q : Bool → Hp → Prop} (h : tT K xo mg G Γ W (.no a) σ H Q) : tNot (tT K xo mg G Γ W a) σ H Q := by
  obtain ⟨B, F, e, r, h⟩ := h
  have h : PostX K xo mg W B σ F (((evE G Γ a e).bind fun x e1 => match tru x.fz with
    | some b => R.ok (DV.d (.bool (!b))) e1
    | none => R.bad).bind fun x e1 => toR (tru x.fz) e1) (fun i _ _ H1 => Q i H1) := h
  refine ⟨B, F, e, r, ?_⟩
  show PostX K xo mg W B σ F ((evE G Γ a e).bind fun x e1 => toR (tru x.fz) e1) _
  cases q : evE G Γ a e with
  | bad => rw [q] at h; exact h
  | exn c ps e => rw [q] at h; exact h
  | ok x e1 =>
    rw [q] at h
    show PostX K xo mg W B σ F (toR (tru x.fz) e1) _
    have h : PostX K xo mg W B σ F ((match tru x.fz with
      | some b => R.ok (DV.d (.bool (!b))) e1
      | none => R.bad).bind fun x e1 => toR (tru x.fz) e1) (fun i _ _ H1 => Q i H1) := h
    cases et : tru x.fz with
    | none => rw [et] at h; exact h
    | some b => rw [et] at h; exact h
theorem sem_cmp {o : Cop} {a b : Ex} (h : tE K xo mg G Γ W (.cmp o a b) σ H Q) : tOp (rCmp K xo o) (tE K xo mg G Γ W a) (tE K xo mg G Γ W b) σ H Q := by
  obtain ⟨B, F, e, r, h⟩ := h
  have h : PostE K xo mg W B σ F ((evE G Γ a e).bind fun x e1 => (evE G Γ b e1).bind fun y e2 => toR ((cmp o x.fz y.fz).map fun b => .d (.bool b)) e2) Q := h
  refine tE_bind r h (fun x y e q => by rw [q]) fun x e1 v H1 F1 r1 s1 dv hp => ?_
  refine tE_bind r1 hp (fun x y e q => by rw [q]) fun y e2 u H2 F2 r2 s2 du hp => ?_
  obtain ⟨dd, ed, hp⟩ := toR_E hp
  have ed : (cmp o x y).map (fun b => DV.d (.bool b)) = some dd := ed
  cases ec : cmp o x y with
  | none => rw [ec] at ed; cases ed
  | some k =>
    rw [ec] at ed
    have ed' := Option.some.inj ed
    subst ed'
    exact ⟨F2, x, y, k, r2.sub, dv.mono s2, du, ec, post_val r2 hp (.bl _)⟩
theorem rCmp_mono {o : Cop} {x y : V} {Q Q' : VK} (h : rCmp K xo o x y H Q) (q : ∀ b, Q (.bl b) H → Q' (.bl b) H) : rCmp K xo o x y H Q' := by
  obtain ⟨F, dx, dy, b, g1, g2, g3, g4, g5⟩ := h
  exact ⟨F, dx, dy, b, g1, g2, g3, g4, q b g5⟩
theorem sem_cmpT {o : Cop} {a b : Ex} {Q : Bool → Hp → Prop} (h : tT K xo mg G Γ W (.cmp o a b) σ H Q) : tTest (tOp (rCmp K xo o) (tE K xo mg G Γ W a) (tE K xo mg G Γ W b)) σ H Q :=
  tE_mono (sem_cmp (sem_truth h)) fun x H1 h1 => tE_mono h1 fun y H2 h2 => rCmp_mono h2 fun b ⟨k, e, q⟩ => ⟨b, rfl, by have e' : k = b := e; rw [← e']; exact q⟩
theorem sem_chn {o p : Cop} {a b c : Ex} (h : tE K xo mg G Γ W (.chn o p a b c) σ H Q) : tChain (rCmp K xo o) (rCmp K xo p) (tE K xo mg G Γ W a) (tE K xo mg G Γ W b) (tE K xo mg G Γ W c) σ H Q := by
  obtain ⟨B, F, e, r, h⟩ := h
  have h : PostE K xo mg W B σ F ((evE G Γ a e).bind fun x e1 => (evE G Γ b e1).bind fun y e2 => match cmp o x.fz y.fz with
    | some true => (evE G Γ c e2).bind fun z e3 => toR ((cmp p y.fz z.fz).map fun b => .d (.bool b)) e3
    | some false => R.ok (DV.d (.bool false)) e2
    | none => R.bad) Q := h
  refine tE_bind r h (fun x y e q => by rw [q]) fun x e1 v H1 F1 r1 s1 dv hp => ?_
  refine tE_bind r1 hp (fun x y e q => by rw [q]) fun y e2 u H2 F2 r2 s2 du hp => ?_
  have hp : PostE K xo mg W B σ F2 (match cmp o x y with
    | some true => (evE G Γ c e2).bind fun z e3 => toR ((cmp p y z.fz).map fun b => .d (.bool b)) e3
    | some false => R.ok (DV.d (.bool false)) e2
    | none => R.bad) Q := hp
  cases ec : cmp o x y with
  | none => rw [ec] at hp; exact hp.elim
  | some k =>
    rw [ec] at hp
    refine ⟨F2, x, y, k, r2.sub, dv.mono s2, du, ec, k, rfl, ?_⟩
    cases k with
    | false =>
      rw [if_neg Bool.false_ne_true]
      exact post_val r2 hp (.bl _)
    | true =>
      rw [if_pos rfl]
      refine tE_bind r2 hp (fun x y e q => by rw [q]) fun z e3 w H3 F3 r3 s3 dw hp => ?_
      obtain ⟨dd, ed, hp⟩ := toR_E hp
      have ed : (cmp p y z).map (fun b => DV.d (.bool b)) = some dd := ed
      cases ec2 : cmp p y z with
      | none => rw [ec2] at ed; cases ed
      | some k2 =>
        rw [ec2] at ed
        have ed' := Option.some.inj ed
        subst ed'
        exact ⟨F3, y, z, k2, r3.sub, du.mono s3, dw, ec2, post_val r3 hp (.bl _)⟩
theorem chain_mono {o p : Cop} {a b c : Ex} {Q Q' : VK} (h : tChain (rCmp K xo o) (rCmp K xo p) (tE K xo mg G Γ W a) (tE K xo mg G Γ W b) (tE K xo mg G Γ W c) σ H Q) (q : ∀ b H, Q (.bl b) H → Q' (.bl b) H) :
    tChain (rCmp K xo o) (rCmp K xo p) (tE K xo mg G Γ W a) (tE K xo mg G Γ W b) (tE K xo mg G Γ W c) σ H Q' :=
  tE_mono h fun x H1 h1 => tE_mono h1 fun y H2 h2 => rCmp_mono h2 fun b ⟨k, e, z⟩ => ⟨k, e, by
    cases k with
    | false =>
      rw [if_neg Bool.false_ne_true] at z ⊢
      exact q _ _ z
    | true =>
      rw [if_pos rfl] at z ⊢
      exact tE_mono z fun w H3 h3 => rCmp_mono h3 fun b z => q _ _ z⟩
theorem sem_chnT {o p : Cop} {a b c : Ex} {Q : Bool → Hp → Prop} (h : tT K xo mg G Γ W (.chn o p a b c) σ H Q) : tTest (tChain (rCmp K xo o) (rCmp K xo p) (tE K xo mg G Γ W a) (tE K xo mg G Γ W b) (tE K xo mg G Γ W c)) σ H Q :=
  chain_mono (sem_chn (sem_truth h)) fun b H2 ⟨k, e, q⟩ => ⟨b, rfl, by have e' : k = b := e; rw [← e']; exact q⟩
theorem sem_fz {a : Ex} (r : Rel K xo B F σ H e) (h : PostE K xo mg W B σ F ((evE G Γ a e).bind fun y e2 => R.ok (DV.d y.fz) e2) Q) : tE K xo mg G Γ W a σ H Q :=
  tE_bind r h (fun x y e q => by rw [q]) fun x e1 v H1 F1 r1 s1 dv hp => post_val r1 hp dv
theorem evT_fz {a : Ex} : ((evE G Γ a e).bind fun y e2 => R.ok (DV.d y.fz) e2).bind (fun x e1 => toR (tru x.fz) e1) = evT G Γ a e := by
  show _ = (evE G Γ a e).bind fun x e1 => toR (tru x.fz) e1
  cases evE G Γ a e <;> rfl
theorem sem_and {a b : Ex} (h : tE K xo mg G Γ W (.and a b) σ H Q) : tAndT K (tE K xo mg G Γ W a) (tE K xo mg G Γ W b) σ H Q := by
  obtain ⟨B, F, e, r, h⟩ := h
  have h : PostE K xo mg W B σ F ((evE G Γ a e).bind fun x e1 => match tru x.fz with
    | some true => (evE G Γ b e1).bind fun y e2 => R.ok (DV.d y.fz) e2
    | some false => R.ok (DV.d x.fz) e1
    | none => R.bad) Q := h
  refine tE_bind r h (fun x y e q => by rw [q]) fun x e1 v H1 F1 r1 s1 dv hp => ?_
  have hp : PostE K xo mg W B σ F1 (match tru x with
    | some true => (evE G Γ b e1).bind fun y e2 => R.ok (DV.d y.fz) e2
    | some false => R.ok (DV.d x) e1
    | none => R.bad) Q := hp
  cases et : tru x with
  | none => rw [et] at hp; exact hp.elim
  | some k =>
    rw [et] at hp
    refine ⟨k, den_tru (r1.den dv) et, ?_⟩
    cases k with
    | true => rw [if_pos rfl]; exact sem_fz r1 hp
    | false => rw [if_neg Bool.false_ne_true]; exact post_val r1 hp dv
theorem sem_or {a b : Ex} (h : tE K xo mg G Γ W (.or a b) σ H Q) : tOrT K (tE K xo mg G Γ W a) (tE K xo mg G Γ W b) σ H Q := by
  obtain ⟨B, F, e, r, h⟩ := h
  have h : PostE K xo mg W B σ F ((evE G Γ a e).bind fun x e1 => match tru x.fz with
    | some false => (evE G Γ b e1).bind fun y e2 => R.ok (DV.d y.fz) e2
    | some true => R.ok (DV.d x.fz) e1
    | none => R.bad) Q := h
  refine tE_bind r h (fun x y e q => by rw [q]) fun x e1 v H1 F1 r1 s1 dv hp => ?_
  have hp : PostE K xo mg W B σ F1 (match tru x with
    | some false => (evE G Γ b e1).bind fun y e2 => R.ok (DV.d y.fz) e2
    | some true => R.ok (DV.d x) e1
    | none => R.bad) Q := hp
  cases et : tru x with
  | none => rw [et] at hp; exact hp.elim
  | some k =>
    rw [et] at hp
    refine ⟨k, den_tru (r1.den dv) et, ?_⟩
    cases k with
    | true => rw [if_pos rfl]; exact post_val r1 hp dv
    | false => rw [if_neg Bool.false_ne_true]; exact sem_fz r1 hp
theorem tru_fz (x : DV) : tru (DV.d x.fz).fz = tru x.fz := rfl
theorem sem_andT {a b : Ex} {Q : Bool → Hp → Prop} (h : tT K xo mg G Γ W (.and a b) σ H Q) : tAnd (tT K xo mg G Γ W a) (tT K xo mg G Γ W b) σ H Q := by
  obtain ⟨B, F, e, r, h⟩ := h
  have h : PostX K xo mg W B σ F (((evE G Γ a e).bind fun x e1 => match tru x.fz with
    | some true => (evE G Γ b e1).bind fun y e2 => R.ok (DV.d y.fz) e2
    | some false => R.ok (DV.d x.fz) e1
    | none => R.bad).bind fun x e1 => toR (tru x.fz) e1) (fun i _ _ H1 => Q i H1) := h
  refine ⟨B, F, e, r, ?_⟩
  show PostX K xo mg W B σ F ((evE G Γ a e).bind fun x e1 => toR (tru x.fz) e1) _
  cases q : evE G Γ a e with
  | bad => rw [q] at h; exact h
  | exn c ps e => rw [q] at h; exact h
  | ok x e1 =>
    rw [q] at h
    have h : PostX K xo mg W B σ F ((match tru x.fz with
      | some true => (evE G Γ b e1).bind fun y e2 => R.ok (DV.d y.fz) e2
      | some false => R.ok (DV.d x.fz) e1
      | none => R.bad).bind fun x e1 => toR (tru x.fz) e1) (fun i _ _ H1 => Q i H1) := h
    show PostX K xo mg W B σ F (toR (tru x.fz) e1) _
    cases et : tru x.fz with
    | none => rw [et] at h; exact h
    | some k =>
      rw [et] at h
      cases k with
      | true =>
        have h : PostX K xo mg W B σ F (((evE G Γ b e1).bind fun y e2 => R.ok (DV.d y.fz) e2).bind (fun x e1 => toR (tru x.fz) e1)) (fun i _ _ H1 => Q i H1) := h
        rw [evT_fz] at h
        exact fun H' F' r1 s1 => ⟨B, F', e1, r1, PostX.sub h s1⟩
      | false =>
        have h : PostX K xo mg W B σ F (toR (tru x.fz) e1) (fun i _ _ H1 => Q i H1) := h
        rw [et] at h
        exact h
theorem sem_orT {a b : Ex} {Q : Bool → Hp → Prop} (h : tT K xo mg G Γ W (.or a b) σ H Q) : tOr (tT K xo mg G Γ W a) (tT K xo mg G Γ W b) σ H Q := by
  obtain ⟨B, F, e, r, h⟩ := h
  have h : PostX K xo mg W B σ F (((evE G Γ a e).bind fun x e1 => match tru x.fz with
    | some false => (evE G Γ b e1).bind fun y e2 => R.ok (DV.d y.fz) e2
    | some true => R.ok (DV.d x.fz) e1
    | none => R.bad).bind fun x e1 => toR (tru x.fz) e1) (fun i _ _ H1 => Q i H1) := h
  refine ⟨B, F, e, r, ?_⟩
  show PostX K xo mg W B σ F ((evE G Γ a e).bind fun x e1 => toR (tru x.fz) e1) _
  cases q : evE G Γ a e with
  | bad => rw [q] at h; exact h
  | exn c ps e => rw [q] at h; exact h
  | ok x e1 =>
    rw [q] at h
    have h : PostX K xo mg W B σ F ((match tru x.fz with
      | some false => (evE G Γ b e1).bind fun y e2 => R.ok (DV.d y.fz) e2
      | some true => R.ok (DV.d x.fz) e1
      | none => R.bad).bind fun x e1 => toR (tru x.fz) e1) (fun i _ _ H1 => Q i H1) := h
    show PostX K xo mg W B σ F (toR (tru x.fz) e1) _
    cases et : tru x.fz with
    | none => rw [et] at h; exact h
    | some k =>
      rw [et] at h
      cases k with
      | false =>
        have h : PostX K xo mg W B σ F (((evE G Γ b e1).bind fun y e2 => R.ok (DV.d y.fz) e2).bind (fun x e1 => toR (tru x.fz) e1)) (fun i _ _ H1 => Q i H1) := h
        rw [evT_fz] at h
        exact fun H' F' r1 s1 => ⟨B, F', e1, r1, PostX.sub h s1⟩
      | true =>
        have h : PostX K xo mg W B σ F (toR (tru x.fz) e1) (fun i _ _ H1 => Q i H1) := h
        rw [et] at h
        exact h
theorem sem_ife {c a b : Ex} (h : tE K xo mg G Γ W (.ife c a b) σ H Q) : tIf (tT K xo mg G Γ W c) (tE K xo mg G Γ W a) (tE K xo mg G Γ W b) σ H Q := by
  obtain ⟨B, F, e, r, h⟩ := h
  have h : PostE K xo mg W B σ F ((evE G Γ c e).bind fun x e1 => match tru x.fz with
    | some true => (evE G Γ a e1).bind fun y e2 => R.ok (DV.d y.fz) e2
    | some false => (evE G Γ b e1).bind fun y e2 => R.ok (DV.d y.fz) e2
    | none => R.bad) Q := h
  refine ⟨B, F, e, r, ?_⟩
  show PostX K xo mg W B σ F ((evE G Γ c e).bind fun x e1 => toR (tru x.fz) e1) _
  cases q : evE G Γ c e with
  | bad => rw [q] at h; exact h
  | exn c ps e => rw [q] at h; exact h
  | ok x e1 =>
    rw [q] at h
    have h : PostE K xo mg W B σ F (match tru x.fz with
      | some true => (evE G Γ a e1).bind fun y e2 => R.ok (DV.d y.fz) e2
      | some false => (evE G Γ b e1).bind fun y e2 => R.ok (DV.d y.fz) e2
      | none => R.bad) Q := h
    show PostX K xo mg W B σ F (toR (tru x.fz) e1) _
    cases et : tru x.fz with
    | none => rw [et] at h; exact h
    | some k =>
      rw [et] at h
      cases k with
      | true => exact fun H' F' r1 s1 => sem_fz r1 (PostE.sub h s1)
      | false => exact fun H' F' r1 s1 => sem_fz r1 (PostE.sub h s1)
def tIfT (tc ta tb : TT) : TT := fun σ H Q => tc σ H fun k H1 => if k = true then ta σ H1 Q else tb σ H1 Q
theorem sem_ifeT {c a b : Ex} {Q : Bool → Hp → Prop} (h : tT K xo mg G Γ W (.ife c a b) σ H Q) : tIfT (tT K xo mg G Γ W c) (tT K xo mg G Γ W a) (tT K xo mg G Γ W b) σ H Q := by
  obtain ⟨B, F, e, r, h⟩ := h
  have h : PostX K xo mg W B σ F (((evE G Γ c e).bind fun x e1 => match tru x.fz with
    | some true => (evE G Γ a e1).bind fun y e2 => R.ok (DV.d y.fz) e2
    | some false => (evE G Γ b e1).bind fun y e2 => R.ok (DV.d y.fz) e2
    | none => R.bad).bind fun x e1 => toR (tru x.fz) e1) (fun i _ _ H1 => Q i H1) := h
  refine ⟨B, F, e, r, ?_⟩
  show PostX K xo mg W B σ F ((evE G Γ c e).bind fun x e1 => toR (tru x.fz) e1) _
  cases q : evE G Γ c e with
  | bad => rw [q] at h; exact h
  | exn c ps e => rw [q] at h; exact h
  | ok x e1 =>
    rw [q] at h
    have h : PostX K xo mg W B σ F ((match tru x.fz with
      | some true => (evE G Γ a e1).bind fun y e2 => R.ok (DV.d y.fz) e2
      | some false => (evE G Γ b e1).bind fun y e2 => R.ok (DV.d y.fz) e2
      | none => R.bad).bind fun x e1 => toR (tru x.fz) e1) (fun i _ _ H1 => Q i H1) := h
    show PostX K xo mg W B σ F (toR (tru x.fz) e1) _
    cases et : tru x.fz with
    | none => rw [et] at h; exact h
    | some k =>
      rw [et] at h
      cases k with
      | true =>
        have h : PostX K xo mg W B σ F (((evE G Γ a e1).bind fun y e2 => R.ok (DV.d y.fz) e2).bind (fun x e1 => toR (tru x.fz) e1)) (fun i _ _ H1 => Q i H1) := h
        rw [evT_fz] at h
        exact fun H' F' r1 s1 => ⟨B, F', e1, r1, PostX.sub h s1⟩
      | false =>
        have h : PostX K xo mg W B σ F (((evE G Γ b e1).bind fun y e2 => R.ok (DV.d y.fz) e2).bind (fun x e1 => toR (tru x.fz) e1)) (fun i _ _ H1 => Q i H1) := h
        rw [evT_fz] at h
        exact fun H' F' r1 s1 => ⟨B, F', e1, r1, PostX.sub h s1⟩
theorem sem_tup {es : Exs} (h : tE K xo mg G Γ W (.tup es) σ H Q) : tTup (tEs K xo mg G Γ W es) σ H Q := by
  obtain ⟨B, F, e, r, h⟩ := h
  have h : PostE K xo mg W B σ F ((evEs G Γ es e).bind fun xs e1 => if xs.length ≤ lim then R.ok (DV.d (.tuple xs)) e1 else R.bad) Q := h
  refine ⟨B, F, e, r, PostX.imp (bindXE h) fun xs e1 F1 H1 r1 s1 hp vs dv => ?_⟩
  have hp : PostE K xo mg W B σ F1 (if xs.length ≤ lim then R.ok (DV.d (.tuple xs)) e1 else R.bad) Q := hp
  by_cases hl : xs.length ≤ lim
  · rw [if_pos hl] at hp
    exact ⟨by rw [dv.length]; exact lim_line hl, post_tup r1 hp dv⟩
  · rw [if_neg hl] at hp; exact hp.elim
theorem sem_lst {es : Exs} (h : tE K xo mg G Γ W (.lst es) σ H Q) : tLst (tEs K xo mg G Γ W es) σ H Q := by
  obtain ⟨B, F, e, r, h⟩ := h
  have h : PostE K xo mg W B σ F ((evEs G Γ es e).bind fun xs e1 => if xs.length ≤ lim then .ok (.fr xs) e1 else R.bad) Q := h
  refine ⟨B, F, e, r, PostX.imp (bindXE h) fun xs e1 F1 H1 r1 s1 hp vs dv => ?_⟩
  have hp : PostE K xo mg W B σ F1 (if xs.length ≤ lim then .ok (.fr xs) e1 else R.bad) Q := hp
  by_cases hl : xs.length ≤ lim
  · rw [if_pos hl] at hp
    exact ⟨by rw [dv.length]; exact lim_line hl, post_lst r1 hp dv⟩
  · rw [if_neg hl] at hp; exact hp.elim
theorem den_at {xs : List V} {ds : List D} {i : Int} {d : D} (r : DenAll K xo F xs ds) (h : L2.atI ds i = some d) : ∃ v, L2.atI xs i = some v ∧ Den K xo F v d := by
  unfold L2.atI at h ⊢
  rw [r.length]
  cases q : L2.ixN ds.length i with
  | none => rw [q] at h; cases h
  | some n =>
    rw [q] at h
    exact r.get (i := n) h
theorem den_ix {x y : V} {dx dy d : D} (hx : Den K xo F x dx) (hy : Den K xo F y dy) (h : ix dx dy = some d) : ∃ (p : Addr) (i : Int) (xs : List V) (v : V), x = .ref p ∧ y = .int i ∧ (SqL K F p xs ∨ SqT K F p xs) ∧ L2.atI xs i = some v ∧ Den K xo F v d := by
  cases hy with
  | int i =>
    cases hx with
    | lst hp r =>
      obtain ⟨v, g1, g2⟩ := den_at r (show L2.atI _ i = some d from h)
      exact ⟨_, i, _, v, rfl, rfl, .inl (.inl (.inl hp)), g1, g2⟩
    | tup hp r =>
      obtain ⟨v, g1, g2⟩ := den_at r (show L2.atI _ i = some d from h)
      exact ⟨_, i, _, v, rfl, rfl, .inr hp, g1, g2⟩
    | scr hp r =>
      obtain ⟨v, g1, g2⟩ := den_at r (show L2.atI _ i = some d from h)
      exact ⟨_, i, _, v, rfl, rfl, .inl hp, g1, g2⟩
    | non => cases h
    | bl _ => cases h
    | int _ => cases h
    | str _ => cases h
    | exc0 _ _ => cases h
    | exc1 _ _ _ _ => cases h
  | non => cases hx <;> cases h
  | bl _ => cases hx <;> cases h
  | str _ => cases hx <;> cases h
  | lst _ _ => cases hx <;> cases h
  | tup _ _ => cases hx <;> cases h
  | scr _ _ => cases hx <;> cases h
  | exc0 _ _ => cases hx <;> cases h
  | exc1 _ _ _ _ => cases hx <;> cases h
def rIx2 (K : PySem.W.Frag) : R2 := fun x y H Q => rIxL K x y H Q ∨ rIxT K x y H Q
theorem rix_of {x y v : V} {p : Addr} {i : Int} {xs : List V} (s : Same F H) (hx : x = .ref p) (hy : y = .int i) (h : SqL K F p xs ∨ SqT K F p xs) (ha : L2.atI xs i = some v) (q : Q v H) : rIx2 K x y H Q := by
  rcases h with h | h
  · exact .inl ⟨p, xs, i, v, hx, hy, s.seq h, ha, q⟩
  · exact .inr ⟨p, xs, i, v, hx, hy, sqt_mono s h, ha, q⟩
theorem sem_ix {a b : Ex} (h : tE K xo mg G Γ W (.ix a b) σ H Q) : tOp (rIx2 K) (tE K xo mg G Γ W a) (tE K xo mg G Γ W b) σ H Q := by
  obtain ⟨B, F, e, r, h⟩ := h
  have h : PostE K xo mg W B σ F ((evE G Γ a e).bind fun x e1 => (evE G Γ b e1).bind fun y e2 => toR ((ix x.fz y.fz).map .d) e2) Q := h
  refine tE_bind r h (fun x y e q => by rw [q]) fun x e1 v H1 F1 r1 s1 dv hp => ?_
  refine tE_bind r1 hp (fun x y e q => by rw [q]) fun y e2 u H2 F2 r2 s2 du hp => ?_
  obtain ⟨dd, ed, hp⟩ := toR_E hp
  have ed : (ix x y).map DV.d = some dd := ed
  cases ei : ix x y with
  | none => rw [ei] at ed; cases ed
  | some d =>
    rw [ei] at ed
    have ed' := Option.some.inj ed
    subst ed'
    obtain ⟨p, i, xs, z, g1, g2, g3, g4, g5⟩ := den_ix (dv.mono s2) du ei
    exact rix_of r2.sub g1 g2 g3 g4 (post_val r2 hp g5)
theorem sem_oix {i : Nat} {b : Ex} (h : tE K xo mg G Γ W (.oix i b) σ H Q) : tOp (rIx2 K) (tVar i) (tE K xo mg G Γ W b) σ H Q := by
  obtain ⟨B, F, e, r, h⟩ := h
  have h : PostE K xo mg W B σ F (match e[i]? with
    | some (.own _ _) => (evE G Γ b e).bind fun k e1 => match e1[i]? with
      | some (.own _ xs) => toR ((ix (.list xs) k.fz).map .d) e1
      | _ => R.bad
    | _ => R.bad) Q := h
  cases q : e[i]? with
  | none => rw [q] at h; exact h.elim
  | some s =>
    rw [q] at h
    cases s with
    | un => exact h.elim
    | val _ => exact h.elim
    | own p xs =>
      obtain ⟨a, vs, g1, _⟩ := r.own i p xs q
      refine ⟨.ref a, g1, ?_⟩
      have h : PostE K xo mg W B σ F ((evE G Γ b e).bind fun k e1 => match e1[i]? with
        | some (.own _ xs) => toR ((ix (.list xs) k.fz).map .d) e1
        | _ => R.bad) Q := h
      refine tE_bind r h (fun x y e q => by rw [q]) fun x e1 v H1 F1 r1 s1 dv hp => ?_
      have hp : PostE K xo mg W B σ F1 (match e1[i]? with
        | some (.own _ xs) => toR ((ix (.list xs) x).map .d) e1
        | _ => R.bad) Q := hp
      cases q1 : e1[i]? with
      | none => rw [q1] at hp; exact hp.elim
      | some s1 =>
        rw [q1] at hp
        cases s1 with
        | un => exact hp.elim
        | val _ => exact hp.elim
        | own p1 xs1 =>
          obtain ⟨a1, vs1, k1, k2, k3, k4, _⟩ := r1.own i p1 xs1 q1
          rw [g1] at k1
          injection k1 with k1
          injection k1 with k1
          injection k1 with k1
          subst k1
          obtain ⟨dd, ed, hp⟩ := toR_E hp
          cases dv with
          | int j =>
            have ed : (L2.atI xs1 j).map DV.d = some dd := ed
            cases ei : L2.atI xs1 j with
            | none => rw [ei] at ed; cases ed
            | some d =>
              rw [ei] at ed
              have ed' := Option.some.inj ed
              subst ed'
              obtain ⟨z, z1, z2⟩ := den_at k4 ei
              exact .inl ⟨a, vs1, j, z, rfl, rfl, .inl (.inl k2), z1, post_val r1 hp z2⟩
          | non => cases ed
          | bl _ => cases ed
          | str _ => cases ed
          | lst _ _ => cases ed
          | tup _ _ => cases ed
          | scr _ _ => cases ed
          | exc0 _ _ => cases ed
          | exc1 _ _ _ _ => cases ed
theorem sem_oadd {i : Nat} {a : Ex} (h : tE K xo mg G Γ W (.oadd a i) σ H Q) : tOp rCat (tE K xo mg G Γ W a) (tVar i) σ H Q := by
  obtain ⟨B, F, e, r, h⟩ := h
  have h : PostE K xo mg W B σ F ((evE G Γ a e).bind fun x e1 => match e1[i]? with
    | some (.own _ ys) => toR (bin .add x.fz (.list ys)) e1
    | _ => R.bad) Q := h
  refine tE_bind r h (fun x y e q => by rw [q]) fun x e1 v H1 F1 r1 s1 dv hp => ?_
  have hp : PostE K xo mg W B σ F1 (match e1[i]? with
    | some (.own _ ys) => toR (bin .add x (.list ys)) e1
    | _ => R.bad) Q := hp
  cases q1 : e1[i]? with
  | none => rw [q1] at hp; exact hp.elim
  | some s1 =>
    rw [q1] at hp
    cases s1 with
    | un => exact hp.elim
    | val _ => exact hp.elim
    | own p ys =>
      obtain ⟨b, vs1, k1, k2, k3, k4, _⟩ := r1.own i p ys q1
      obtain ⟨dd, ed, hp⟩ := toR_E hp
      refine ⟨.ref b, k1, ?_⟩
      cases dv with
      | lst h1 a1 =>
        rename_i ds _
        have ed : (if ds.length + ys.length ≤ lim then some (DV.fr (ds ++ ys)) else none) = some dd := ed
        split at ed
        · rename_i hl
          have z := Option.some.inj ed
          subst z
          exact ⟨_, _, _, _, rfl, rfl, r1.sub _ _ h1, k2, by rw [a1.length, k4.length]; exact lim_line hl, post_lst r1 hp (a1.append k4)⟩
        · cases ed
      | int _ => cases ed
      | non => cases ed
      | bl _ => cases ed
      | str _ => cases ed
      | tup _ _ => cases ed
      | scr _ _ => cases ed
      | exc0 _ _ => cases ed
      | exc1 _ _ _ _ => cases ed
theorem sem_op {a : Ex} {Q : Option Int → Hp → Prop} (h : tO K xo mg G Γ W (.som a) σ H Q) : tPart (tE K xo mg G Γ W a) σ H Q := by
  obtain ⟨B, F, e, r, h⟩ := h
  have h : PostX K xo mg W B σ F ((evE G Γ a e).bind fun x e1 => match x.fz with
    | .int i => .ok (some i) e1
    | _ => R.bad) (fun i _ _ H1 => Q i H1) := h
  refine tE_bindX r h (fun x y e q => by rw [q]) fun x e1 v H1 F1 r1 s1 dv hp => ?_
  cases x with
  | int i =>
    cases dv
    exact ⟨i, rfl, hp H1 F1 r1 (Same.refl _)⟩
  | none => exact hp.elim
  | bool _ => exact hp.elim
  | str _ => exact hp.elim
  | list _ => exact hp.elim
  | tuple _ => exact hp.elim
  | dict _ => exact hp.elim
def rSl2 (K : PySem.W.Frag) : V → Option Int → Option Int → Hp → VK → Prop := fun x lo hi H Q => rSlL K x lo hi H Q ∨ rSlA K x lo hi H Q
theorem sem_sl {a : Ex} {lo hi : Op} (h : tE K xo mg G Γ W (.sl a lo hi) σ H Q) : tSl (rSl2 K) (tE K xo mg G Γ W a) (tO K xo mg G Γ W lo) (tO K xo mg G Γ W hi) σ H Q := by
  obtain ⟨B, F, e, r, h⟩ := h
  have h : PostE K xo mg W B σ F ((evE G Γ a e).bind fun x e1 => (evOp G Γ lo e1).bind fun i e2 => (evOp G Γ hi e2).bind fun j e3 => toR (sl x.fz i j) e3) Q := h
  refine tE_bind r h (fun x y e q => by rw [q]) fun x e1 v H1 F1 r1 s1 dv hp => ?_
  refine ⟨B, F1, e1, r1, PostX.imp (bindXE hp) fun i e2 F2 H2 r2 s2 hp => ?_⟩
  refine ⟨B, F2, e2, r2, PostX.imp (bindXE hp) fun j e3 F3 H3 r3 s3 hp => ?_⟩
  obtain ⟨dd, ed, hp⟩ := toR_E hp
  have dv3 := (dv.mono s2).mono s3
  cases dv3 with
  | lst hp1 da =>
    have ed' := Option.some.inj ed
    subst ed'
    exact .inl ⟨_, _, rfl, .inl (.inl (r3.sub _ _ hp1)), post_lst r3 hp (da.cutD i j)⟩
  | @tup a1 vs1 ds1 hp1 da =>
    have ed' := Option.some.inj ed
    subst ed'
    refine .inr ⟨_, _, rfl, sqt_mono r3.sub hp1, fun ⟨z1, z2⟩ => ?_, fun _ => post_tup r3 hp (da.cutD i j)⟩
    refine post_val r3 hp (.tup hp1 ?_)
    have hc := da.cutD i j
    have ec : cutV vs1 i j = vs1 := by
      show (vs1.drop (HT.sIx vs1.length 0 i)).take (HT.sIx vs1.length vs1.length j - HT.sIx vs1.length 0 i) = vs1
      rw [z1, z2, List.drop_zero, Nat.sub_zero, List.take_length]
    rw [ec] at hc
    exact hc
  | non => cases ed
  | bl _ => cases ed
  | int _ => cases ed
  | str _ => cases ed
  | scr _ _ => cases ed
  | exc0 _ _ => cases ed
  | exc1 _ _ _ _ => cases ed
theorem sem_rsl {a : Ex} (h : tE K xo mg G Γ W (.rsl a) σ H Q) : tRevA K (tE K xo mg G Γ W a) σ H Q := by
  obtain ⟨B, F, e, r, h⟩ := h
  have h : PostE K xo mg W B σ F ((evE G Γ a e).bind fun x e1 => toR (revSl x.fz) e1) Q := h
  refine tE_bind r h (fun x y e q => by rw [q]) fun x e1 v H1 F1 r1 s1 dv hp => ?_
  obtain ⟨dd, ed, hp⟩ := toR_E hp
  cases dv with
  | lst hp1 da =>
    have ed' := Option.some.inj ed
    subst ed'
    exact ⟨_, _, rfl, .inl ⟨.inl (.inl (r1.sub _ _ hp1)), post_lst r1 hp da.rev⟩⟩
  | tup hp1 da =>
    have ed' := Option.some.inj ed
    subst ed'
    exact ⟨_, _, rfl, .inr ⟨sqt_mono r1.sub hp1, post_tup r1 hp da.rev⟩⟩
  | non => cases ed
  | bl _ => cases ed
  | int _ => cases ed
  | str _ => cases ed
  | scr _ _ => cases ed
  | exc0 _ _ => cases ed
  | exc1 _ _ _ _ => cases ed
theorem sem_cons {a : Ex} {as : Exs} {Q : List V → Hp → Prop} (h : tEs K xo mg G Γ W (.cons a as) σ H Q) : tCons (tE K xo mg G Γ W a) (tEs K xo mg G Γ W as) σ H Q := by
  obtain ⟨B, F, e, r, h⟩ := h
  have h : PostX K xo mg W B σ F ((evE G Γ a e).bind fun x e1 => (evEs G Γ as e1).bind fun xs e2 => .ok (x.fz :: xs) e2) (fun ds e1 F1 H1 => ∀ vs, DenAll K xo F1 vs ds → Q vs H1) := h
  refine tE_bindX r h (fun x y e q => by rw [q]) fun x e1 v H1 F1 r1 s1 dv hp => ?_
  refine ⟨B, F1, e1, r1, PostX.imp (bindX hp) fun xs e2 F2 H2 r2 s2 hp vs da => ?_⟩
  exact hp H2 F2 r2 (Same.refl _) (v :: vs) (.cons (dv.mono s2) da)
theorem sem_bi {f : Bi} {es : Exs} (h : tE K xo mg G Γ W (.bi f es) σ H Q) : tCB (rBi K xo mg W f) (tEs K xo mg G Γ W es) σ H Q := by
  obtain ⟨B, F, e, r, h⟩ := h
  have h : PostE K xo mg W B σ F ((evEs G Γ es e).bind fun xs e1 => toR (bi f xs) e1) Q := h
  refine ⟨B, F, e, r, PostX.imp (bindXE h) fun xs e1 F1 H1 r1 s1 hp vs dv => ?_⟩
  obtain ⟨dd, ed, hp⟩ := toR_E hp
  exact ⟨B, F1, σ, e1, xs, dd, r1, dv, ed, hp⟩
end
end DL


set_option Elab.async false
set_option linter.all false
set_option maxRecDepth 100000
set_option maxHeartbeats 4000000
/-! DL16: a text that agrees with its term does what the term says (terms). -/
namespace DL
open PySem PySem.Spec PyProof.Rows L2

section
variable {K : PySem.W.Frag} {xo : XO} {mg : Str → Option Value} {G : List D} {Γ : List Fn} {W : WX} {B : FB} {σ : L2.St} {F F1 H : Hp} {e : Env} {Q : VK} {α β : Type}
theorem sem_isi {t : Ty} {a : Ex} (h : tE K xo mg G Γ W (.bi (.isi t) (.cons a .nil)) σ H Q) :
    tCB (fun vs H Q => ∃ (F : Hp) (v : V) (d : D) (b : D), vs = [v, .ty (tyStr t)] ∧ Same F H ∧ Den K xo F v d ∧ bi (.isi t) [d] = some (.d b) ∧ (∃ k, b = .bool k ∧ Q (.bl k) H)) (tCons (tE K xo mg G Γ W a) (tCons (tC (.ty (tyStr t))) tNil)) σ H Q := by
  obtain ⟨B, F, e, r, h⟩ := h
  have h : PostE K xo mg W B σ F ((evE G Γ a e).bind fun x e1 => toR (bi (.isi t) [x.fz]) e1) Q := by
    have h : PostE K xo mg W B σ F (((evE G Γ a e).bind fun x e1 => R.ok (x.fz :: []) e1).bind fun xs e1 => toR (bi (.isi t) xs) e1) Q := h
    cases q : evE G Γ a e with
    | bad => rw [q] at h; exact h
    | exn c ps e => rw [q] at h; exact h
    | ok x e1 => rw [q] at h; exact h
  refine tE_bind r h (fun x y e q => by rw [q]) fun x e1 v H1 F1 r1 s1 dv hp => ?_
  obtain ⟨dd, ed, hp⟩ := toR_E hp
  have ed : bi (.isi t) [x] = some dd := ed
  have e2 : ∃ k, dd = .d (.bool k) := by
    have h0 : bi (.isi t) [x] = none ∨ bi (.isi t) [x] = some (.d (.bool (tyIs t x))) := by
      cases x <;> first | exact .inr rfl | exact .inl rfl
    rcases h0 with z | z
    · rw [z] at ed; cases ed
    · rw [z] at ed
      exact ⟨_, (Option.some.inj ed).symm⟩
  obtain ⟨k, ek⟩ := e2
  subst ek
  exact ⟨F1, v, x, .bool k, rfl, r1.sub, dv, ed, k, rfl, post_val r1 hp (.bl _)⟩
/-- isinstance of None or of an exception that is held -/
theorem sem_isx {a : Ex} {c : Str} {cv : V} {u : Value} (k : ClsV cv u) (ef : ExF K mg) (xof : ∀ k o, exNames.contains k = true → (xo k none o ↔ ∃ C a, mg k = some (.ref C) ∧ o = ExP (.ref C) a))
    (hc : (c = ("ValueError" : Str) ∧ u = .type "ValueError") ∨ ∃ C, u = .ref C ∧ mg c = some (.ref C) ∧ exNames.contains c = true) (h : tE K xo mg G Γ W (.isx a c) σ H Q) :
    tCB (rIsX K) (tCons (tE K xo mg G Γ W a) (tCons (tC cv) tNil)) σ H Q := by
  obtain ⟨B, F, e, r, h⟩ := h
  have h : PostE K xo mg W B σ F ((evE G Γ a e).bind fun x e1 => toR ((isX c x.fz).map fun b => .d (.bool b)) e1) Q := h
  refine tE_bind r h (fun x y e q => by rw [q]) fun x e1 v H1 F1 r1 s1 dv hp => ?_
  obtain ⟨dd, ed, hp⟩ := toR_E hp
  have ed : (isX c x).map (fun b => DV.d (.bool b)) = some dd := ed
  cases q : isX c x with
  | none => rw [q] at ed; cases ed
  | some b =>
    rw [q] at ed
    have ed := Option.some.inj ed
    subst ed
    refine ⟨v, cv, u, b, rfl, k, ?_, post_val r1 hp (.bl _)⟩
    unfold isX at q
    split at q
    · rename_i y
      split at q
      · rename_i hy
        rw [Bool.and_eq_true] at hy
        have q := Option.some.inj q
        subst q
        right
        cases dv with
        | exc0 g1 g2 =>
          obtain ⟨C, a', m1, rfl⟩ := (xof _ _ hy.1).mp g2
          refine ⟨_, C, a', rfl, r1.sub _ _ g1, (ef.cls _ C hy.1 m1).1, ?_⟩
          rcases hc with ⟨rfl, rfl⟩ | ⟨D, rfl, m2, hD⟩
          · rw [(ef.cls _ C hy.1 m1).2.1]
            simp [exSub]
          · exact (ef.sub _ _ _ _ hy.1 hD m1 m2).1
      · cases q
    · split at q
      · rename_i hy
        have q := Option.some.inj q
        subst q
        cases dv
        refine .inl ⟨rfl, ?_⟩
        rcases hc with ⟨rfl, rfl⟩ | ⟨D, rfl, m2, hD⟩
        · exact kit_ty (by decide +kernel)
        · exact (ef.cls _ D hD m2).2.2
      · cases q
    · cases q
def rLen2 (K : PySem.W.Frag) : List V → Hp → VK → Prop := fun xs H Q => ∃ p ys, xs = [.ref p] ∧ (SqL K H p ys ∨ SqT K H p ys) ∧ Q (.int ys.length) H
theorem sem_olen {i : Nat} (h : tE K xo mg G Γ W (.olen i) σ H Q) : tCB (rLen2 K) (tCons (tVar i) tNil) σ H Q := by
  obtain ⟨B, F, e, r, h⟩ := h
  have h : PostE K xo mg W B σ F (match e[i]? with
    | some (.own _ xs) => R.ok (DV.d (.int xs.length)) e
    | _ => R.bad) Q := h
  cases q : e[i]? with
  | none => rw [q] at h; exact h.elim
  | some s =>
    rw [q] at h
    cases s with
    | un => exact h.elim
    | val _ => exact h.elim
    | own p xs =>
      obtain ⟨a, vs, g1, g2, g3, g4, _⟩ := r.own i p xs q
      refine ⟨.ref a, g1, a, vs, rfl, .inl (.inl (.inl g2)), ?_⟩
      rw [g4.length]
      exact post_val r h (.int _)
theorem sem_call {k : Nat} {es : Exs} {f : Fn} (hf : Γ[k]? = some f) (h : tE K xo mg G Γ W (.call k es) σ H Q) : tCallSD (spFn K xo mg f) [] (WE W) (tEs K xo mg G Γ W es) σ H Q := by
  obtain ⟨B, F, e, r, h⟩ := h
  have h : PostE K xo mg W B σ F ((evEs G Γ es e).bind fun xs e1 => match Γ[k]? with
    | some f => if f.own = false ∧ f.np = xs.length then (match f.run [] xs with
      | .ret v _ => R.ok v e1
      | .exn c ps _ => R.exn c ps e1
      | .bad => R.bad) else R.bad
    | none => R.bad) Q := h
  refine ⟨B, F, e, r, PostX.imp (bindXE h) fun xs e1 F1 H1 r1 s1 hp vs dv => ?_⟩
  rw [hf] at hp
  have hp : PostE K xo mg W B σ F1 (if f.own = false ∧ f.np = xs.length then (match f.run [] xs with
      | .ret v _ => R.ok v e1
      | .exn c ps _ => R.exn c ps e1
      | .bad => R.bad) else R.bad) Q := hp
  by_cases hc : f.own = false ∧ f.np = xs.length
  rotate_left
  · rw [if_neg hc] at hp; exact hp.elim
  rw [if_pos hc] at hp
  rw [List.append_nil]
  refine ⟨by rw [dv.length]; exact hc.2.symm, r1.tabs, F1, r1.sub, .inl ⟨hc.1, xs, dv, ?_⟩⟩
  cases hr : f.run [] xs with
  | bad => rw [hr] at hp; exact hp.elim
  | exn c ps o' =>
    rw [hr] at hp
    exact fun cls dx H' F' fin x => hp cls dx H' F' (r1.called fin) fin.subF x
  | ret v o' =>
    rw [hr] at hp
    cases v with
    | d d => exact fun v H' F' fin dn => hp v H' F' (r1.called fin) fin.subF dn
    | fr ds => exact fun p ws H' F' fin hp1 hF1 da h0 => hp p ws H' F' (r1.called fin) fin.subF hp1 hF1 da (.inl (r1.h0 h0)) fun i pp es q => r1.ownNe h0 i pp es q
theorem sem_callo {k i : Nat} {es : Exs} {f : Fn} (hf : Γ[k]? = some f) (h : tE K xo mg G Γ W (.callo k i es) σ H Q) : tCallSD (spFn K xo mg f) [] (WE W) (tCons (tVar i) (tEs K xo mg G Γ W es)) σ H Q := by
  obtain ⟨B, F, e, r, h⟩ := h
  have h : PostE K xo mg W B σ F (match e[i]? with
    | some (.own _ _) => (evEs G Γ es e).bind fun xs e1 => match Γ[k]?, e1[i]? with
      | some f, some (.own p o) => if f.own = true ∧ f.np = xs.length + 1 then (match f.run o xs with
        | .ret v o' => R.ok v (e1.set i (.own p o'))
        | .exn c ps o' => R.exn c ps (e1.set i (.own p o'))
        | .bad => R.bad) else R.bad
      | _, _ => R.bad
    | _ => R.bad) Q := h
  cases q : e[i]? with
  | none => rw [q] at h; exact h.elim
  | some s =>
    rw [q] at h
    cases s with
    | un => exact h.elim
    | val _ => exact h.elim
    | own p xs =>
      obtain ⟨a, vs, g1, _⟩ := r.own i p xs q
      refine ⟨.ref a, g1, ?_⟩
      have h : PostE K xo mg W B σ F ((evEs G Γ es e).bind fun xs e1 => match Γ[k]?, e1[i]? with
        | some f, some (.own p o) => if f.own = true ∧ f.np = xs.length + 1 then (match f.run o xs with
          | .ret v o' => R.ok v (e1.set i (.own p o'))
          | .exn c ps o' => R.exn c ps (e1.set i (.own p o'))
          | .bad => R.bad) else R.bad
        | _, _ => R.bad) Q := h
      refine ⟨B, F, e, r, PostX.imp (bindXE h) fun xs e1 F1 H1 r1 s1 hp us dv => ?_⟩
      have hp : PostE K xo mg W B σ F1 (match Γ[k]?, e1[i]? with
        | some f, some (.own p o) => if f.own = true ∧ f.np = xs.length + 1 then (match f.run o xs with
          | .ret v o' => R.ok v (e1.set i (.own p o'))
          | .exn c ps o' => R.exn c ps (e1.set i (.own p o'))
          | .bad => R.bad) else R.bad
        | _, _ => R.bad) Q := hp
      rw [hf] at hp
      cases q1 : e1[i]? with
      | none => rw [q1] at hp; exact hp.elim
      | some s1 =>
        rw [q1] at hp
        cases s1 with
        | un => exact hp.elim
        | val _ => exact hp.elim
        | own p1 o =>
          have hp : PostE K xo mg W B σ F1 (if f.own = true ∧ f.np = xs.length + 1 then (match f.run o xs with
            | .ret v o' => R.ok v (e1.set i (.own p1 o'))
            | .exn c ps o' => R.exn c ps (e1.set i (.own p1 o'))
            | .bad => R.bad) else R.bad) Q := hp
          by_cases hc : f.own = true ∧ f.np = xs.length + 1
          rotate_left
          · rw [if_neg hc] at hp; exact hp.elim
          rw [if_pos hc] at hp
          obtain ⟨a1, ws, k1, k2, k3, k4, k5, k6⟩ := r1.own i p1 o q1
          rw [g1] at k1
          injection k1 with k1
          injection k1 with k1
          injection k1 with k1
          subst k1
          show spFn K xo mg f ((V.ref a :: us) ++ []) H1 Q (WE W σ)
          rw [List.append_nil]
          refine ⟨by rw [List.length_cons, dv.length]; exact hc.2.symm, r1.tabs, F1, r1.sub, .inr ⟨hc.1, a, us, ws, o, xs, rfl, k2, k3, k4, dv, ?_⟩⟩
          cases hr : f.run o xs with
          | bad => rw [hr] at hp; exact hp.elim
          | exn c ps o' =>
            rw [hr] at hp
            exact fun cls dx H' F' fin x => hp cls dx H' F' (r1.calledO q1 g1 fin) fin.subF x
          | ret v o' =>
            rw [hr] at hp
            cases v with
            | d d => exact fun v H' F' fin dn => hp v H' F' (r1.calledO q1 g1 fin) fin.subF dn
            | fr ds =>
              refine fun p ws' H' F' fin hp1 hF1 da h0 => hp p ws' H' F' (r1.calledO q1 g1 fin) fin.subF hp1 hF1 da (.inl (r1.h0 h0)) fun j pp es' z => ?_
              have old : ∃ pp es, e1[j]? = some (.own pp es) := by
                rcases getSet z with ⟨z1, _⟩ | ⟨_, z⟩
                · subst z1; exact ⟨_, _, q1⟩
                · exact ⟨_, _, z⟩
              obtain ⟨pp0, es0, z0⟩ := old
              exact r1.ownNe h0 j pp0 es0 z0
/-! ### what is walked -/
def iSeq (K : PySem.W.Frag) (tl : TE) : TI := fun σ H R => tl σ H fun x H1 => ∃ (t : Bool) (a : Addr) (xs : List V), x = .ref a ∧ Sq K H1 t a xs ∧ R (Its K t a) H1
theorem pi_seq {X : Cx} {tg l : Expr} {tl : TE} (hl : PE X l tl) : PI X tg l (iSeq X.K tl) := by
  refine ⟨fun pins s σ H R I h => thn (hl.run pins s σ H _ I h) fun v s1 ⟨x, H1, I1, r1, t, a, xs, ex, hq, q⟩ => ?_⟩
  subst ex
  cases r1
  cases t with
  | true =>
    obtain ⟨is1, rv1, p1, z1⟩ := I1.tuple hq
    exact wpAny_pyIter_tuple (show s1.heap.IsTuple a is1.toArray from p1) (pi_one (tk := s1.toks) I1 _ (turn_tuple a _) ⟨_, Heap.get?_push_size _ rfl, rfl, rfl⟩ q)
  | false =>
    obtain ⟨is1, rv1, p1, z1⟩ := I1.list hq
    exact wpAny_pyIter_list p1.isList (pi_one (tk := s1.toks) I1 _ (turn_list a _) ⟨_, Heap.get?_push_size _ rfl, rfl, rfl⟩ q)
theorem PI.imp {X : Cx} {tg e : Expr} {t t' : TI} (h : PI X tg e t) (i : ∀ σ H Q, t' σ H Q → t σ H Q) : PI X tg e t' := ⟨fun pins s σ H Q I q => h.run pins s σ H Q I (i σ H Q q)⟩
theorem PO.imp {X : Cx} {e : Option Expr} {t t' : TO} (h : PO X e t) (i : ∀ σ H Q, t' σ H Q → t σ H Q) : PO X e t' := ⟨fun pins s σ H Q I q => h.run pins s σ H Q I (i σ H Q q)⟩
theorem PTs.imp {X : Cx} {e : List Expr} {t t' : TT} (h : PTs X e t) (i : ∀ σ H Q, t' σ H Q → t σ H Q) : PTs X e t' := ⟨fun pins s σ H Q I q => h.run pins s σ H Q I (i σ H Q q)⟩
variable {Rj : L2.It → Hp → Prop}
theorem sem_seq {a : Ex} (h : tI K xo mg G Γ W (.seq a) σ H Rj) : iSeq K (tE K xo mg G Γ W a) σ H Rj := by
  obtain ⟨B, F, e, r, h⟩ := h
  have h : PostX K xo mg W B σ F ((evE G Γ a e).bind fun x e1 => toR (items? x.fz) e1) (fun ds _ F1 H1 => ∀ J, Wk K xo J F1 ds → Rj J H1) := h
  refine tE_bindX r h (fun x y e q => by rw [q]) fun x e1 v H1 F1 r1 s1 dv hp => ?_
  obtain ⟨ds, ed, hp⟩ := toR_X hp
  obtain ⟨t, p, vs, e1', hq, da⟩ := den_items dv ed
  exact ⟨t, p, vs, e1', sq_mono r1.sub hq, hp H1 F1 r1 (Same.refl _) _ (wk_seq hq da)⟩
theorem sem_rev {a : Ex} (h : tI K xo mg G Γ W (.rev a) σ H Rj) : RT.iRevA K (tE K xo mg G Γ W a) σ H Rj := by
  obtain ⟨B, F, e, r, h⟩ := h
  have h : PostX K xo mg W B σ F ((evE G Γ a e).bind fun x e1 => toR ((items? x.fz).map List.reverse) e1) (fun ds _ F1 H1 => ∀ J, Wk K xo J F1 ds → Rj J H1) := h
  refine tE_bindX r h (fun x y e q => by rw [q]) fun x e1 v H1 F1 r1 s1 dv hp => ?_
  obtain ⟨ds, ed, hp⟩ := toR_X hp
  have ed : (items? x).map List.reverse = some ds := ed
  cases ei : items? x with
  | none => rw [ei] at ed; cases ed
  | some xs =>
    rw [ei] at ed
    have ed' := Option.some.inj ed
    subst ed'
    obtain ⟨t, p, vs, e1', hq, da⟩ := den_items dv ei
    have q2 := hp H1 F1 r1 (Same.refl _) _ (wk_rev hq da)
    refine ⟨p, vs, e1', ?_⟩
    cases t with
    | true => exact .inr ⟨sqt_mono r1.sub hq, q2⟩
    | false => exact .inl ⟨r1.sub.seq hq, q2⟩
theorem sem_en {a : Ex} (h : tI K xo mg G Γ W (.enum (.seq a)) σ H Rj) : iEn K (tCons (tE K xo mg G Γ W a) tNil) σ H Rj := by
  obtain ⟨B, F, e, r, h⟩ := h
  have h : PostX K xo mg W B σ F ((evE G Γ a e).bind fun x e1 => toR ((items? x.fz).map (enumD 0)) e1) (fun ds _ F1 H1 => ∀ J, Wk K xo J F1 ds → Rj J H1) := by
    have h : PostX K xo mg W B σ F (((evE G Γ a e).bind fun x e1 => toR (items? x.fz) e1).bind fun xs e1 => R.ok (enumD 0 xs) e1) (fun ds _ F1 H1 => ∀ J, Wk K xo J F1 ds → Rj J H1) := h
    cases q : evE G Γ a e with
    | bad => rw [q] at h; exact h
    | exn c ps e => rw [q] at h; exact h
    | ok x e1 =>
      rw [q] at h
      have h : PostX K xo mg W B σ F ((toR (items? x.fz) e1).bind fun xs e1 => R.ok (enumD 0 xs) e1) (fun ds _ F1 H1 => ∀ J, Wk K xo J F1 ds → Rj J H1) := h
      show PostX K xo mg W B σ F (toR ((items? x.fz).map (enumD 0)) e1) _
      cases q2 : items? x.fz with
      | none => rw [q2] at h; exact h
      | some _ => rw [q2] at h; exact h
  refine tE_bindX r h (fun x y e q => by rw [q]) fun x e1 v H1 F1 r1 s1 dv hp => ?_
  obtain ⟨ds, ed, hp⟩ := toR_X hp
  have ed : (items? x).map (enumD 0) = some ds := ed
  cases ei : items? x with
  | none => rw [ei] at ed; cases ed
  | some xs =>
    rw [ei] at ed
    have ed' := Option.some.inj ed
    subst ed'
    obtain ⟨t, p, vs, e1', hq, da⟩ := den_items dv ei
    subst e1'
    exact ⟨p, t, vs, rfl, sq_mono r1.sub hq, hp H1 F1 r1 (Same.refl _) _ (wk_en hq da)⟩
theorem all_items {vs : List V} {xs : List D} (h : DenAll K xo F vs xs) : ∀ {n : Nat}, xs.length = n → vs.length = n := fun e => by rw [h.length, e]
theorem big_lim {i : Int} (h : big i = true) : -(2 ^ 62) ≤ i ∧ i < 2 ^ 62 := by
  unfold big at h
  simp only [Bool.and_eq_true, decide_eq_true_eq] at h
  omega
theorem sem_rng1 {es : Exs} {e0 : Ex} (hes : es = .cons e0 .nil) (h : tI K xo mg G Γ W (.rng es) σ H Rj) : iRng1 (tEs K xo mg G Γ W es) σ H Rj := by
  obtain ⟨B, F, e, r, h⟩ := h
  have h : PostX K xo mg W B σ F ((evEs G Γ es e).bind fun xs e1 => toR (rngD xs) e1) (fun ds _ F1 H1 => ∀ J, Wk K xo J F1 ds → Rj J H1) := h
  have hl : ∀ xs e1, evEs G Γ es e = .ok xs e1 → xs.length = 1 := by
    intro xs e1 q
    rw [hes] at q
    have q : ((evE G Γ e0 e).bind fun x e1 => R.ok (x.fz :: []) e1) = .ok xs e1 := q
    obtain ⟨x, e2, _, q⟩ := bind_ok q
    injection q with q1 q2
    rw [← q1]
    rfl
  refine ⟨B, F, e, r, ?_⟩
  have h2 := bindX h
  cases q : evEs G Γ es e with
  | bad => rw [q] at h2; exact h2
  | exn c ps e => rw [q] at h2; exact h2
  | ok xs e1 =>
    rw [q] at h2
    have h1 := hl xs e1 q
    refine fun H1 F1 r1 s1 vs dv => ?_
    have hp := h2 H1 F1 r1 s1
    obtain ⟨ds, ed, hp⟩ := toR_X hp
    match xs, h1, dv, ed with
    | [x], _, dv, ed =>
      cases dv with
      | cons d1 dr =>
        cases dr
        cases d1 with
        | int j =>
          have ed : (if big j then some (rngI 0 j.toNat) else none) = some ds := ed
          by_cases hb : big j = true
          · rw [if_pos hb] at ed
            have ed' := Option.some.inj ed
            subst ed'
            obtain ⟨b1, b2⟩ := big_lim hb
            exact ⟨j, rfl, b1, b2, hp H1 F1 r1 (Same.refl _) _ (wk_rng 0 _)⟩
          · rw [if_neg hb] at ed; cases ed
        | non => cases ed
        | bl _ => cases ed
        | str _ => cases ed
        | lst _ _ => cases ed
        | tup _ _ => cases ed
        | scr _ _ => cases ed
        | exc0 _ _ => cases ed
        | exc1 _ _ _ _ => cases ed
theorem sem_rng2 {es : Exs} {e0 e2 : Ex} (hes : es = .cons e0 (.cons e2 .nil)) (h : tI K xo mg G Γ W (.rng es) σ H Rj) : iRng2 (tEs K xo mg G Γ W es) σ H Rj := by
  obtain ⟨B, F, e, r, h⟩ := h
  have h : PostX K xo mg W B σ F ((evEs G Γ es e).bind fun xs e1 => toR (rngD xs) e1) (fun ds _ F1 H1 => ∀ J, Wk K xo J F1 ds → Rj J H1) := h
  have hl : ∀ xs e1, evEs G Γ es e = .ok xs e1 → xs.length = 2 := by
    intro xs e1 q
    rw [hes] at q
    have q : ((evE G Γ e0 e).bind fun x e1 => (((evE G Γ e2 e1).bind fun y e3 => R.ok (y.fz :: []) e3)).bind fun xs e3 => R.ok (x.fz :: xs) e3) = .ok xs e1 := q
    obtain ⟨x, e3, _, q⟩ := bind_ok q
    obtain ⟨ys, e4, q0, q⟩ := bind_ok q
    obtain ⟨y, e5, _, q0⟩ := bind_ok q0
    injection q0 with q1 q2
    injection q with q3 q4
    rw [← q3, ← q1]
    rfl
  refine ⟨B, F, e, r, ?_⟩
  have h2 := bindX h
  cases q : evEs G Γ es e with
  | bad => rw [q] at h2; exact h2
  | exn c ps e => rw [q] at h2; exact h2
  | ok xs e1 =>
    rw [q] at h2
    have h1 := hl xs e1 q
    refine fun H1 F1 r1 s1 vs dv => ?_
    have hp := h2 H1 F1 r1 s1
    obtain ⟨ds, ed, hp⟩ := toR_X hp
    match xs, h1, dv, ed with
    | [x, y], _, dv, ed =>
      cases dv with
      | cons d1 dr =>
        cases dr with
        | cons d2 dr =>
          cases dr
          have fin : ∀ i j : Int, x = .int i → y = .int j → rngD [x, y] = some ds → big i = true ∧ big j = true ∧ ds = rngI i (j - i).toNat := by
            intro i j ex ey ed
            subst ex ey
            have ed : (if (big i && big j) = true then some (rngI i (j - i).toNat) else none) = some ds := ed
            by_cases hb : (big i && big j) = true
            · rw [if_pos hb] at ed
              rw [Bool.and_eq_true] at hb
              exact ⟨hb.1, hb.2, (Option.some.inj ed).symm⟩
            · rw [if_neg hb] at ed; cases ed
          have hij : (∃ i j, x = .int i ∧ y = .int j) := by
            cases x with
            | int i => cases y with
              | int j => exact ⟨i, j, rfl, rfl⟩
              | _ => cases ed
            | _ => cases ed
          obtain ⟨i, j, ex, ey⟩ := hij
          obtain ⟨b1, b2, b3⟩ := fin i j ex ey ed
          subst ex ey b3
          cases d1
          cases d2
          obtain ⟨c1, c2⟩ := big_lim b1
          obtain ⟨c3, c4⟩ := big_lim b2
          exact ⟨i, j, rfl, ⟨c1, c2, c3, c4⟩, hp H1 F1 r1 (Same.refl _) _ (wk_rng i _)⟩
theorem sem_z2 {st : Bool} {es : Exs} {e0 e2 : Ex} (hes : es = .cons e0 (.cons e2 .nil)) (h : tI K xo mg G Γ W (.zip st es) σ H Rj) : iZ2 K st (tEs K xo mg G Γ W es) σ H Rj := by
  obtain ⟨B, F, e, r, h⟩ := h
  have h : PostX K xo mg W B σ F ((evEs G Γ es e).bind fun xs e1 => toR (zipD st xs) e1) (fun ds _ F1 H1 => ∀ J, Wk K xo J F1 ds → Rj J H1) := h
  have hl : ∀ xs e1, evEs G Γ es e = .ok xs e1 → xs.length = 2 := by
    intro xs e1 q
    rw [hes] at q
    have q : ((evE G Γ e0 e).bind fun x e1 => (((evE G Γ e2 e1).bind fun y e3 => R.ok (y.fz :: []) e3)).bind fun xs e3 => R.ok (x.fz :: xs) e3) = .ok xs e1 := q
    obtain ⟨x, e3, _, q⟩ := bind_ok q
    obtain ⟨ys, e4, q0, q⟩ := bind_ok q
    obtain ⟨y, e5, _, q0⟩ := bind_ok q0
    injection q0 with q1 q2
    injection q with q3 q4
    rw [← q3, ← q1]
    rfl
  refine ⟨B, F, e, r, ?_⟩
  have h2 := bindX h
  cases q : evEs G Γ es e with
  | bad => rw [q] at h2; exact h2
  | exn c ps e => rw [q] at h2; exact h2
  | ok xs e1 =>
    rw [q] at h2
    have h1 := hl xs e1 q
    refine fun H1 F1 r1 s1 vs dv => ?_
    have hp := h2 H1 F1 r1 s1
    obtain ⟨ds, ed, hp⟩ := toR_X hp
    match xs, h1, dv, ed with
    | [x, y], _, dv, ed =>
      cases dv with
      | cons d1 dr =>
        cases dr with
        | cons d2 dr =>
          cases dr
          cases ex : items? x with
          | none => unfold zipD at ed; simp only [List.map_cons, List.map_nil, ex] at ed; cases ed
          | some us =>
            cases ey : items? y with
            | none => unfold zipD at ed; simp only [List.map_cons, List.map_nil, ex, ey] at ed; cases ed
            | some ws =>
              have ed : (if st = true → us.length = ws.length then some (zipAll [us, ws]) else none) = some ds := by
                unfold zipD at ed
                simp only [List.map_cons, List.map_nil, ex, ey] at ed
                exact ed
              by_cases hs : st = true → us.length = ws.length
              · rw [if_pos hs] at ed
                have ed' := Option.some.inj ed
                subst ed'
                obtain ⟨t1, p1, vs1, e1', hq1, da1⟩ := den_items d1 ex
                obtain ⟨t2, p2, vs2, e2', hq2, da2⟩ := den_items d2 ey
                subst e1' e2'
                exact ⟨p1, p2, t1, t2, vs1, vs2, rfl, sq_mono r1.sub hq1, sq_mono r1.sub hq2, hp H1 F1 r1 (Same.refl _) _ (wk_z2 hq1 hq2 da1 da2 hs)⟩
              · rw [if_neg hs] at ed; cases ed
theorem sem_z3 {st : Bool} {es : Exs} {e0 e2 e3 : Ex} (hes : es = .cons e0 (.cons e2 (.cons e3 .nil))) (h : tI K xo mg G Γ W (.zip st es) σ H Rj) : iZ3 K st (tEs K xo mg G Γ W es) σ H Rj := by
  obtain ⟨B, F, e, r, h⟩ := h
  have h : PostX K xo mg W B σ F ((evEs G Γ es e).bind fun xs e1 => toR (zipD st xs) e1) (fun ds _ F1 H1 => ∀ J, Wk K xo J F1 ds → Rj J H1) := h
  have hl : ∀ xs e1, evEs G Γ es e = .ok xs e1 → xs.length = 3 := by
    intro xs e1 q
    rw [hes] at q
    have q : ((evE G Γ e0 e).bind fun x e1 => (((evE G Γ e2 e1).bind fun y e3' => (((evE G Γ e3 e3').bind fun z e4 => R.ok (z.fz :: []) e4)).bind fun zs e4 => R.ok (y.fz :: zs) e4)).bind fun xs e3 => R.ok (x.fz :: xs) e3) = .ok xs e1 := q
    obtain ⟨x, e3, _, q⟩ := bind_ok q
    obtain ⟨ys, e4, q0, q⟩ := bind_ok q
    obtain ⟨y, e5, _, q0⟩ := bind_ok q0
    obtain ⟨zs, e6, q00, q0⟩ := bind_ok q0
    obtain ⟨z, e7, _, q00⟩ := bind_ok q00
    injection q00 with q1 q2
    injection q0 with q3 q4
    injection q with q5 q6
    rw [← q5, ← q3, ← q1]
    rfl
  refine ⟨B, F, e, r, ?_⟩
  have h2 := bindX h
  cases q : evEs G Γ es e with
  | bad => rw [q] at h2; exact h2
  | exn c ps e => rw [q] at h2; exact h2
  | ok xs e1 =>
    rw [q] at h2
    have h1 := hl xs e1 q
    refine fun H1 F1 r1 s1 vs dv => ?_
    have hp := h2 H1 F1 r1 s1
    obtain ⟨ds, ed, hp⟩ := toR_X hp
    match xs, h1, dv, ed with
    | [x, y, z], _, dv, ed =>
      cases dv with
      | cons d1 dr =>
        cases dr with
        | cons d2 dr =>
          cases dr with
          | cons d3 dr =>
            cases dr
            cases ex : items? x with
            | none => unfold zipD at ed; simp only [List.map_cons, List.map_nil, ex] at ed; cases ed
            | some us =>
              cases ey : items? y with
              | none => unfold zipD at ed; simp only [List.map_cons, List.map_nil, ex, ey] at ed; cases ed
              | some ws =>
                cases ez : items? z with
                | none => unfold zipD at ed; simp only [List.map_cons, List.map_nil, ex, ey, ez] at ed; cases ed
                | some ts =>
                  have ed : (if st = true → us.length = ws.length ∧ us.length = ts.length then some (zipAll [us, ws, ts]) else none) = some ds := by
                    unfold zipD at ed
                    simp only [List.map_cons, List.map_nil, ex, ey, ez] at ed
                    exact ed
                  by_cases hs : st = true → us.length = ws.length ∧ us.length = ts.length
                  · rw [if_pos hs] at ed
                    have ed' := Option.some.inj ed
                    subst ed'
                    obtain ⟨t1, p1, vs1, e1', hq1, da1⟩ := den_items d1 ex
                    obtain ⟨t2, p2, vs2, e2', hq2, da2⟩ := den_items d2 ey
                    obtain ⟨t3, p3, vs3, e3', hq3, da3⟩ := den_items d3 ez
                    subst e1' e2' e3'
                    exact ⟨p1, p2, p3, t1, t2, t3, vs1, vs2, vs3, rfl, sq_mono r1.sub hq1, sq_mono r1.sub hq2, sq_mono r1.sub hq3, hp H1 F1 r1 (Same.refl _) _ (wk_z3 hq1 hq2 hq3 da1 da2 da3 hs)⟩
                  · rw [if_neg hs] at ed; cases ed
theorem tEs_mono {es : Exs} {A B : List V → Hp → Prop} (m : ∀ vs H, A vs H → B vs H) (h : tEs K xo mg G Γ W es σ H A) : tEs K xo mg G Γ W es σ H B := by
  obtain ⟨B0, F, e, r, h⟩ := h
  exact ⟨B0, F, e, r, PostX.imp h fun a e F1 H1 _ _ z vs dv => m _ _ (z vs dv)⟩
theorem callee_es {es : Exs} {sp1 sp0 : Sp} {dvs : List V} {E : L2.St → XK} {Q : VK} (m : ∀ vs H Q E, sp1 vs H Q E → sp0 (vs ++ dvs) H Q E) (h : tCallSD sp1 [] E (tEs K xo mg G Γ W es) σ H Q) : tCallSD sp0 dvs E (tEs K xo mg G Γ W es) σ H Q :=
  tEs_mono (fun vs H1 z => m _ _ _ _ (by rw [List.append_nil] at z; exact z)) h
theorem callee_own {i : Nat} {es : Exs} {sp1 sp0 : Sp} {dvs : List V} {E : L2.St → XK} {Q : VK} (m : ∀ vs H Q E, sp1 vs H Q E → sp0 (vs ++ dvs) H Q E) (h : tCallSD sp1 [] E (tCons (tVar i) (tEs K xo mg G Γ W es)) σ H Q) : tCallSD sp0 dvs E (tCons (tVar i) (tEs K xo mg G Γ W es)) σ H Q := by
  obtain ⟨v, hv, h⟩ := h
  exact ⟨v, hv, tEs_mono (fun vs H1 z => m _ _ _ _ (by
    have z : sp1 ((v :: vs) ++ []) H1 Q (E σ) := z
    rw [List.append_nil] at z
    exact z)) h⟩
theorem sem_callk {k : Nat} {es : Exs} {a : Ex} {f : Fn} (hf : Γ[k]? = some f) {m : Nat} (hm : m + 1 = f.np) (h : tE K xo mg G Γ W (.callk k es a) σ H Q) : tCallN m 1 (spFn K xo mg f) (fun vs zs => vs ++ zs) (WE W σ) (tEs K xo mg G Γ W es) (tCons (tE K xo mg G Γ W a) tNil) σ H Q := by
  obtain ⟨B, F, e, r, h⟩ := h
  have h : PostE K xo mg W B σ F ((evEs G Γ es e).bind fun xs e1 => (evE G Γ a e1).bind fun y e2 => match Γ[k]? with
    | some f => if f.own = false ∧ f.np = xs.length + 1 then (match f.run [] (xs ++ [y.fz]) with
      | .ret v _ => R.ok v e2
      | .exn c ps _ => R.exn c ps e2
      | .bad => R.bad) else R.bad
    | none => R.bad) Q := h
  refine ⟨B, F, e, r, PostX.imp (bindXE h) fun xs e1 F1 H1 r1 s1 hp vs dv => ?_⟩
  refine tE_bind r1 hp (fun x y e q => by rw [q]) fun y e2 v H2 F2 r2 s2 dy hp => ?_
  rw [hf] at hp
  have hp : PostE K xo mg W B σ F2 (if f.own = false ∧ f.np = xs.length + 1 then (match f.run [] (xs ++ [y]) with
      | .ret v _ => R.ok v e2
      | .exn c ps _ => R.exn c ps e2
      | .bad => R.bad) else R.bad) Q := hp
  by_cases hc : f.own = false ∧ f.np = xs.length + 1
  rotate_left
  · rw [if_neg hc] at hp; exact hp.elim
  rw [if_pos hc] at hp
  have lx := dv.length
  have dv2 := (dv.mono s2).append (.cons dy .nil)
  refine ⟨by omega, rfl, by rw [List.length_append, lx]; exact hc.2.symm, r2.tabs, F2, r2.sub, .inl ⟨hc.1, xs ++ [y], dv2, ?_⟩⟩
  have dv := dv2
  cases hr : f.run [] (xs ++ [y]) with
  | bad => rw [hr] at hp; exact hp.elim
  | exn c ps o' =>
    rw [hr] at hp
    exact fun cls dx H' F' fin x => hp cls dx H' F' (r2.called fin) fin.subF x
  | ret v o' =>
    rw [hr] at hp
    cases v with
    | d d => exact fun v H' F' fin dn => hp v H' F' (r2.called fin) fin.subF dn
    | fr ds => exact fun p ws H' F' fin hp1 hF2 da h0 => hp p ws H' F' (r2.called fin) fin.subF hp1 hF2 da (.inl (r2.h0 h0)) fun i pp es q => r2.ownNe h0 i pp es q
theorem callee_k {m : Nat} {es : Exs} {a : Ex} {sp1 sp0 : Sp} {gV : List V → List V → List V} {E : XK} {Q : VK} (h : ∀ vs H Q E, sp1 vs H Q E → sp0 vs H Q E) (q : tCallN m 1 sp1 gV E (tEs K xo mg G Γ W es) (tCons (tE K xo mg G Γ W a) tNil) σ H Q) : tCallN m 1 sp0 gV E (tEs K xo mg G Γ W es) (tCons (tE K xo mg G Γ W a) tNil) σ H Q :=
  tEs_mono (fun vs H1 z => tE_mono z fun x H2 z => ⟨z.1, z.2.1, h _ _ _ _ z.2.2⟩) q
end
section
variable {X : Cx} {CX : CXT} {k n : Nat} {f : Addr} {fd : FuncData} {ps ks : List Str} {sp : Sp} {E : L2.St → XK} {x : Str} {p pos : Pos} {e : Expr} {es : List Expr} {kws : List Keyword} {t tk : TA} {g : List Value → List Value → List Value} {gV : List V → List V → List V}
theorem pe_callND (F : FnOk X.prog X.w X.K X.mg X.base CX k f fd ps sp) (hr : Room k X.A) (hg : Gl X x) (hm : X.mg x = some (.ref f)) (hk : PySem.W.keepIn X.K (.ref f) = true) (hb : KBn X.K fd ps n ks g gV) (hx : ∀ σ, PassesAt CX X σ (E σ))
    (ha : PA X (e :: es) t) (hkw : PK X kws tk) (hall : (backToKw pos (keywordEach kws X.env)).all (·.1.isSome) = true) (hks : (backToKw pos (keywordEach kws X.env)).filterMap (·.1) = ks)
    (hdb : (x == ("__debug__" : Str)) = false) (he : starEach (e :: es) X.env = (false, eval e X.env) :: starEach es X.env)
    (hpl : ((backTo pos (starEach (e :: es) X.env)).any (·.1) || (backToKw pos (keywordEach kws X.env)).any (·.1.isNone)) = false) :
    PE X (.Call (.Name x p) (e :: es) kws pos) (fun σ H Q => tCallN n ks.length sp gV (E σ) t tk σ H Q) := by
  refine ⟨fun pins s σ H Q I h => ?_⟩
  refine wpAny_Call_Name_kw (ld_glob I hg hm ?_ hdb)
  refine PySem.W.callWith_KW (h₀ := X.base) I.ok.mod.kin hk hall (thn (ha.run pos pins s σ H _ I h) fun us s1 ⟨vs, H1, I1, r, q⟩ => ?_) hpl he
  refine thn (hkw.run pos pins s1 σ H1 _ I1 q) fun ws s2 ⟨zs, H2, I2, rz, l1, l2, q2⟩ => ⟨I2.kIn, ?_⟩
  rw [hks]
  have r2 := hb.rel r rz
  refine wpAny_call (codeAny_mono (F.run X.A X.stack s2 H2 ⟨us, ks.zip ws⟩ (g us ws) (gV vs zs) Q (E σ) hr I2.env0 (hb.to s2 us ws I2.kIn (r.length.symm.trans l1) (rz.length.symm.trans l2)) r2 q2) fun r s' hq => ?_)
  cases r with
  | error e => exact hx σ pins H2 s2 e s' I2 hq
  | ok fl =>
    cases fl with
    | ret u => exact I2.after hq
    | next => exact False.elim hq
    | brk => exact False.elim hq
    | cont => exact False.elim hq
end
end DL


set_option Elab.async false
set_option linter.all false
set_option maxRecDepth 100000
set_option maxHeartbeats 2000000
/-! DLY1: a strict zip of two whose told tuples are kept. -/
namespace DL
open PySem PySem.Spec PyProof.Rows L2
open PySem.Builtin.SmallTypes (nextOf nextOrEnd)
/-- the tuple told last is still there -/
abbrev ZipH (h : Heap) (z TI TO T : Addr) (f : Bool) : Prop :=
  h.get? z = some { cls := .type "zip", dict := none, data := .fields #[rawInt T, .bool f, .bool true, .ref TI, .ref TO], slots := #[] }
structure Z2H (h : Heap) (n : Nat) (t1 t2 : Bool) (l1 l2 : Nat) (i : Nat) (T : Addr) : Prop where
  z : ∃ f, ZipH h (n + 4) (n + 2) (n + 3) T f
  al : ∃ o, h.get? T = some o
  ne : T ≠ n ∧ T ≠ n + 1 ∧ T ≠ n + 4
  ti : TupO h (n + 2) #[.ref n, .ref (n + 1)]
  i1 : SIt h t1 n l1 i
  i2 : SIt h t2 (n + 1) l2 i
section
variable {prog : Program} {w : World} {A : Around} {E : Value → Shared → Prop} {s : Shared} {n l1 l2 : Nat} {t1 t2 : Bool} {i : Nat} {xs ys : Array Value} {T : Addr}
theorem heldZ {z TI TO T : Addr} {f : Bool} {oT : Obj} {Q : Bool → Shared → Prop} (hz : ZipH s.heap z TI TO T f) (hT : s.heap.get? T = some oT)
    (h : ∀ h', ZipH h' z TI TO T true → Heap.SameBut z s.heap h' → Q false { s with heap := h' }) : wpAny (model prog w) A (Builtin.SmallTypes.ownedTupleIsFree (.ref z)) Q E s := by
  unfold Builtin.SmallTypes.ownedTupleIsFree
  refine wpAny_bind (wpAny_field hz rfl (x := rawInt T) rfl ?_)
  show wpAny _ _ (loadIfAlive ((T : Int).toNat) >>= _) _ _ _
  rw [Int.toNat_natCast]
  refine wpAny_bind (PySem.W.kdx_alive hT ?_)
  simp only [Option.isNone_some, Bool.false_eq_true, if_false]
  refine wpAny_bind (wpAny_field hz rfl (x := .bool f) rfl ?_)
  cases f with
  | true =>
    rw [if_neg (show ¬ ((Value.bool true != Value.bool true) = true) from Bool.false_ne_true)]
    exact wpAny_pure (h s.heap hz (Heap.SameBut.refl _ _))
  | false =>
    rw [if_pos (show (Value.bool false != Value.bool true) = true from rfl)]
    exact wpAny_bind (wpAny_setField_rec hz (by simp) fun h₁ hz₁ hs₁ => wpAny_pure (h h₁ hz₁ hs₁))
theorem z2h_item {x y : Value} {Q : Value → Shared → Prop} (D : Z2H s.heap n t1 t2 l1 l2 i T) (n1 : l1 < n) (n2 : l2 < n) (o1 : SOb s.heap t1 l1 xs) (o2 : SOb s.heap t2 l2 ys) (hx : xs[i]? = some x) (hy : ys[i]? = some y)
    (hQ : ∀ h', Z2H h' n t1 t2 l1 l2 (i + 1) T → TupO h' s.heap.objs.size #[x, y] →
      h'.objs.size = s.heap.objs.size + 1 → (∀ b o, b ∉ [n, n + 1, n + 2, n + 3, n + 4] → s.heap.get? b = some o → h'.get? b = some o) → Q (.ref s.heap.objs.size) { s with heap := h' }) :
    wpAny (model prog w) A (Builtin.«zip.__next__» ⟨[.ref (n + 4)], []⟩) (fun fin s' => ∃ v, fin = .done (.ret v) ∧ Q v s') E s := by
  obtain ⟨⟨f, hz⟩, ⟨oT, hT⟩, hne, hti, hi1, hi2⟩ := D
  refine (show wpAny _ _ (field (.ref (n + 4)) 2 >>= _) _ _ _ from wpAny_bind (wpAny_field hz rfl (x := .bool true) rfl ?_))
  refine (show wpAny _ _ (field (.ref (n + 4)) 3 >>= _) _ _ _ from wpAny_bind (wpAny_field hz rfl (x := .ref (n + 2)) rfl ?_))
  refine wpAny_bind (wpAny_seqItems hti rfl ?_)
  refine (show wpAny _ _ (Builtin.SmallTypes.ownedTupleIsFree (.ref (n + 4)) >>= _) _ _ _ from wpAny_bind (heldZ hz hT fun h1 hz1 s1 => ?_))
  simp only [Bool.false_eq_true, if_false]
  refine wpAny_bind ?_
  rw [← Array.forIn_toList]
  simp only [List.forIn_cons, List.forIn_nil]
  have k1 : ∀ (c : Nat) o, c ≠ (n + 4) → s.heap.get? c = some o → h1.get? c = some o := fun c o q e => s1.extBut c o q e
  have a0 : SIt h1 t1 n l1 i := hi1.at fun o q => k1 n o (by omega) q
  have b0 : SOb h1 t1 l1 xs := o1.at fun o q => k1 l1 o (by omega) q
  refine wpAny_bind (wpAny_bind (wpAny_holding ?_))
  refine (show wpAny _ _ (nextOrEnd (.ref n)) _ _ _ from nextS' (s := { s with heap := h1 }) a0 b0 hx fun h2 g0 s2 => ?_)
  refine wpAny_pure ?_
  have k2 : ∀ (c : Nat) o, c ≠ (n + 4) → c ≠ n → s.heap.get? c = some o → h2.get? c = some o := fun c o q0 q1 e => s2.extBut c o q1 (k1 c o q0 e)
  have a1 : SIt h2 t2 (n + 1) l2 i := hi2.at fun o q => k2 (n + 1) o (by omega) (by omega) q
  have b1 : SOb h2 t2 l2 ys := o2.at fun o q => k2 l2 o (by omega) (by omega) q
  refine wpAny_bind (wpAny_bind (wpAny_holding ?_))
  refine (show wpAny _ _ (nextOrEnd (.ref (n + 1))) _ _ _ from nextS' (s := { s with heap := h2 }) a1 b1 hy fun h3 g1 s3 => ?_)
  refine wpAny_pure (wpAny_pure ?_)
  refine (show wpAny _ _ (newTuple [x, y] >>= _) _ _ _ from wpAny_bind (wpAny_newTuple ?_))
  have hsz : h3.objs.size = s.heap.objs.size := by rw [s3.1, s2.1, s1.1]
  have k3 : ∀ (c : Nat) o, c ≠ (n + 4) → c ≠ n → c ≠ (n + 1) → s.heap.get? c = some o → h3.get? c = some o := fun c o q0 q1 q2 e => s3.extBut c o q2 (k2 c o q0 q1 e)
  have z3 : ZipH h3 (n + 4) (n + 2) (n + 3) T true := s3.extBut (n + 4) _ (show (n + 4) ≠ (n + 1) by omega) (s2.extBut (n + 4) _ (show (n + 4) ≠ n by omega) hz1)
  have j1 : SIt h3 t1 n l1 (i + 1) := g0.at fun o q => s3.extBut n _ (show n ≠ (n + 1) by omega) q
  have hA : h3.get? T = some oT := k3 T oT hne.2.2 hne.1 hne.2.1 hT
  refine wpAny_pure ⟨_, rfl, ?_⟩
  show Q (.ref h3.objs.size) _
  have hp : TupO (h3.push { cls := .type "tuple", data := .seq #[x, y] }) h3.objs.size #[x, y] := Heap.get?_push_size _ rfl
  have hz4 : (h3.push { cls := .type "tuple", data := .seq #[x, y] }).objs.size = h3.objs.size + 1 := Heap.size_push ..
  have up : ∀ {c : Addr} {u : Obj}, h3.get? c = some u → (h3.push { cls := .type "tuple", data := .seq #[x, y] }).get? c = some u := fun q => Heap.get?_push_of_some _ q
  rw [hsz] at hp hz4 ⊢
  exact hQ _ ⟨⟨true, up z3⟩, ⟨oT, up hA⟩, hne, up (k3 (n + 2) _ (by omega) (by omega) (by omega) hti), j1.at fun o q => up q, g1.at fun o q => up q⟩ hp hz4 fun c o hc e => up (by
    simp only [List.mem_cons, List.mem_nil_iff, or_false, not_or] at hc
    exact k3 c o hc.2.2.2.2 hc.1 hc.2.1 e)
theorem z2h_end {Q : Fin → Shared → Prop} (hh : A.handled = none) (D : Z2H s.heap n t1 t2 l1 l2 i T) (n1 : l1 < n) (n2 : l2 < n) (o1 : SOb s.heap t1 l1 xs) (o2 : SOb s.heap t2 l2 ys) (e1 : xs[i]? = none) (e2 : ys[i]? = none)
    (hE : ∀ h' e, (∀ b o, b ∉ [n, n + 1, n + 2, n + 3, n + 4] → s.heap.get? b = some o → h'.get? b = some o) → (∃ o, h'.get? e = some o ∧ o.cls = .type "StopIteration") → E (.ref e) { s with heap := h' }) :
    wpAny (model prog w) A (Builtin.«zip.__next__» ⟨[.ref (n + 4)], []⟩) Q E s := by
  obtain ⟨⟨f, hz⟩, ⟨oT, hT⟩, hne, hti, hi1, hi2⟩ := D
  refine (show wpAny _ _ (field (.ref (n + 4)) 2 >>= _) _ _ _ from wpAny_bind (wpAny_field hz rfl (x := .bool true) rfl ?_))
  refine (show wpAny _ _ (field (.ref (n + 4)) 3 >>= _) _ _ _ from wpAny_bind (wpAny_field hz rfl (x := .ref (n + 2)) rfl ?_))
  refine wpAny_bind (wpAny_seqItems hti rfl ?_)
  refine (show wpAny _ _ (Builtin.SmallTypes.ownedTupleIsFree (.ref (n + 4)) >>= _) _ _ _ from wpAny_bind (heldZ hz hT fun h1 hz1 s1 => ?_))
  simp only [Bool.false_eq_true, if_false]
  refine wpAny_bind ?_
  rw [← Array.forIn_toList]
  simp only [List.forIn_cons, List.forIn_nil]
  have k1 : ∀ (c : Nat) o, c ≠ (n + 4) → s.heap.get? c = some o → h1.get? c = some o := fun c o q e => s1.extBut c o q e
  have a0 : SIt h1 t1 n l1 i := hi1.at fun o q => k1 n o (by omega) q
  have b0 : SOb h1 t1 l1 xs := o1.at fun o q => k1 l1 o (by omega) q
  refine wpAny_bind (wpAny_bind (wpAny_holding ?_))
  refine (show wpAny _ _ (nextOrEnd (.ref n)) _ _ _ from nextE' (s := { s with heap := h1 }) hh a0 b0 e1 fun h2 s2 => ?_)
  have k2 : ∀ (c : Nat) o, c ≠ (n + 4) → c ≠ n → s.heap.get? c = some o → h2.get? c = some o := fun c o q0 q1 e => s2 c o q1 (k1 c o q0 e)
  refine wpAny_bind ?_
  refine wpAny_bind ?_
  simp only [List.drop_succ_cons, List.drop_zero, List.zipIdx_cons, List.zipIdx_nil, List.forIn_cons, List.forIn_nil]
  have a1 : SIt h2 t2 (n + 1) l2 i := hi2.at fun o q => k2 (n + 1) o (by omega) (by omega) q
  have b1 : SOb h2 t2 l2 ys := o2.at fun o q => k2 l2 o (by omega) (by omega) q
  refine wpAny_bind (show wpAny _ _ (nextOrEnd (.ref (n + 1)) >>= _) _ _ _ from wpAny_bind (nextE' (s := { s with heap := h2 }) hh a1 b1 e2 fun h4 s4 => ?_))
  simp only [Option.isSome_none, Bool.false_eq_true, if_false]
  refine wpAny_pure ?_
  have k4 : ∀ (c : Nat) o, c ≠ (n + 4) → c ≠ n → c ≠ (n + 1) → s.heap.get? c = some o → h4.get? c = some o := fun c o q0 q1 q2 e => s4 c o q2 (k2 c o q0 q1 e)
  refine wpAny_pure (wpAny_bind (wpAny_rule (stopS hh fun hB e sB he => hE hB e (fun c o hc q => ?_) he)))
  simp only [List.mem_cons, List.mem_nil_iff, or_false, not_or] at hc
  exact sB c o (k4 c o hc.2.2.2.2 hc.1 hc.2.1 q)
/-- a strict zip at turn i, its tuples kept -/
def ZK (h : Heap) (n : Nat) (t1 t2 : Bool) (l1 l2 i : Nat) : Prop := Z2 h n true t1 t2 l1 l2 i ∨ ∃ T, Z2H h n t1 t2 l1 l2 i T
theorem ZK.at {h h' : Heap} (D : ZK h n t1 t2 l1 l2 i) (k : ∀ b o, h.get? b = some o → h'.get? b = some o) : ZK h' n t1 t2 l1 l2 i := by
  rcases D with ⟨a, b, ⟨x, y, c⟩, d, e⟩ | ⟨T, ⟨f, z⟩, ⟨o, al⟩, ne, ti, i1, i2⟩
  · exact .inl ⟨k _ _ a, k _ _ b, ⟨x, y, k _ _ c⟩, d.at fun o q => k _ o q, e.at fun o q => k _ o q⟩
  · exact .inr ⟨T, ⟨f, k _ _ z⟩, ⟨o, k _ _ al⟩, ne, k _ _ ti, i1.at fun o q => k _ o q, i2.at fun o q => k _ o q⟩
theorem ZK.lt (D : ZK s.heap n t1 t2 l1 l2 i) : n + 4 < s.heap.objs.size := by
  rcases D with D | ⟨T, D⟩
  · exact Heap.lt_size D.z
  · obtain ⟨f, z⟩ := D.z
    exact Heap.lt_size z
theorem ZK.typ (D : ZK s.heap n t1 t2 l1 l2 i) : s.TypeIs (.ref (n + 4)) "zip" := by
  rcases D with D | ⟨T, D⟩
  · exact ⟨_, D.z, rfl⟩
  · obtain ⟨f, z⟩ := D.z
    exact ⟨_, z, rfl⟩
theorem zk_next {x y : Value} {Q : Option Value → Shared → Prop} (D : ZK s.heap n t1 t2 l1 l2 i) (n1 : l1 < n) (n2 : l2 < n) (o1 : SOb s.heap t1 l1 xs) (o2 : SOb s.heap t2 l2 ys) (hx : xs[i]? = some x) (hy : ys[i]? = some y)
    (hQ : ∀ h', ZK h' n t1 t2 l1 l2 (i + 1) → TupO h' s.heap.objs.size #[x, y] → h'.objs.size = s.heap.objs.size + 1 → (∀ b o, b ∉ [n, n + 1, n + 2, n + 3, n + 4] → s.heap.get? b = some o → h'.get? b = some o) → Q (some (.ref s.heap.objs.size)) { s with heap := h' }) : wpAny (model prog w) A (pyNext (.ref (n + 4))) Q E s := by
  have lt := D.lt
  have hT := D.typ
  have ne3 : s.heap.objs.size ≠ n ∧ s.heap.objs.size ≠ n + 1 ∧ s.heap.objs.size ≠ n + 4 := ⟨by omega, by omega, by omega⟩
  rcases D with D | ⟨T, D⟩
  · exact z2_next D n1 n2 o1 o2 hx hy fun h' a b c d0 d1 e f g => hQ h' (.inr ⟨s.heap.objs.size, ⟨false, a⟩, ⟨_, e⟩, ne3, b, d0, d1⟩) e f g
  · unfold pyNext
    refine wpAny_bind (wpAny_attempt (wpAny_callSpecial?_slot (name := Str.ofString "__next__") hT F.slot_zip_next (wpAny_call_entry F.slot_zip_next hT F.entry_zip_next ?_ (F.args_zip_next_1 _))))
    exact z2h_item D n1 n2 o1 o2 hx hy fun h' a b c d => wpAny_pure (hQ h' (.inr ⟨T, a⟩) b c d)
theorem zk_stop {Q : Option Value → Shared → Prop} (hh : A.handled = none) (D : ZK s.heap n t1 t2 l1 l2 i) (n1 : l1 < n) (n2 : l2 < n) (o1 : SOb s.heap t1 l1 xs) (o2 : SOb s.heap t2 l2 ys) (e1 : xs[i]? = none) (e2 : ys[i]? = none)
    (hQ : ∀ h', (∀ b o, b ∉ [n, n + 1, n + 2, n + 3, n + 4] → s.heap.get? b = some o → h'.get? b = some o) → Q none { s with heap := h' }) : wpAny (model prog w) A (pyNext (.ref (n + 4))) Q E s := by
  have hT := D.typ
  rcases D with D | ⟨T, D⟩
  · exact z2_stop hh D n1 n2 o1 o2 (st := true) ⟨e1, e2⟩ hQ
  · have fin : ∀ h' e, (∀ b o, b ∉ [n, n + 1, n + 2, n + 3, n + 4] → s.heap.get? b = some o → h'.get? b = some o) → (∃ o, h'.get? e = some o ∧ o.cls = .type "StopIteration") →
        wpAny (model prog w) A (do if ← isInstance (.ref e) (.type "StopIteration") then pure none else throw (.ref e)) Q E { s with heap := h' } := fun h' e k he => by
      obtain ⟨o, ho, hc⟩ := he
      exact wpAny_bind (wpAny_isInstance (T := "StopIteration") (b := true) ⟨o, ho, hc⟩ isSubtype_stop (wpAny_pure (hQ _ k)))
    unfold pyNext
    refine wpAny_bind (wpAny_attempt (wpAny_callSpecial?_slot (name := Str.ofString "__next__") hT F.slot_zip_next (wpAny_call_entry F.slot_zip_next hT F.entry_zip_next ?_ (F.args_zip_next_1 _))))
    exact z2h_end hh D n1 n2 o1 o2 e1 e2 fun h' e k he => fin h' e k he
end
end DL


set_option Elab.async false
set_option linter.all false
set_option maxRecDepth 100000
set_option maxHeartbeats 2000000
/-! DLY2: list(zip(xs, ys, strict=True)). -/
namespace DL
open PySem PySem.Spec PyProof.Rows L2
theorem zip_no_len : typeLookup (.type "zip") "__len__" = pure none := by rw [typeLookup_type, builtinLookup_eq_fast]; kernel_rfl
theorem zip_no_hint : typeLookup (.type "zip") "__length_hint__" = pure none := by rw [typeLookup_type, builtinLookup_eq_fast]; kernel_rfl
/-- the tuples one by one, then the list of them -/
def zlQ (S : Addr) (Q : VK) : List (V × V) → List V → Hp → Prop
  | [], acc, H => Q (.ref S) (upd H S (.lst acc))
  | p :: r, acc, H => ∀ T, H T = none → T ≠ S → zlQ S Q r (acc ++ [.ref T]) (upd H T (.tup [p.1, p.2]))
abbrev fpz (n : Nat) : List Addr := [n, n + 1, n + 2, n + 3, n + 4]
section
variable {X : Cx} {pins : List (Addr × Obj)} {σ : L2.St} {n a b S : Nat} {t1 t2 : Bool} {Q : VK} {R : Result → Shared → Prop} {res : Value} {A : Around}
theorem upd_comm2 {H : Hp} {x y : Addr} {u v w : HO} (h : x ≠ y) : upd (upd (upd H x u) y v) x w = upd (upd H y v) x w := by
  funext c
  by_cases h1 : c = x
  · subst h1
    rw [upd_same, upd_same]
  · rw [upd_ne h1, upd_ne h1]
    by_cases h2 : c = y
    · subst h2
      rw [upd_same, upd_same]
    · rw [upd_ne h2, upd_ne h2, upd_ne h1]
theorem sq_upd {K : PySem.W.Frag} {H : Hp} {t : Bool} {a c : Addr} {xs : List V} {o : HO} (h : Sq K H t a xs) (hc : H c = none) : Sq K (upd H c o) t a xs := by
  have s : Same H (upd H c o) := fun d x q => by
    rw [upd_ne (fun z => by rw [z, hc] at q; cases q)]
    exact q
  cases t
  · exact s.seq (show SqL K H a xs from h)
  · exact sqt_mono s (show SqT K H a xs from h)
theorem drainZ (hA : A.handled = none) (na : a < n) (nb : b < n) (hS : n + 4 < S) (hR : ∀ (s' : Shared) (H' : Hp), L2.Inv X pins σ H' s' → Q (.ref S) H' → R (.ok (.ret res)) s') :
    ∀ (r : List (V × V)) (i : Nat) (acc : List V) (H : Hp) (s : Shared) (xs ys : List V), xs.length = ys.length → (xs.zip ys).drop i = r → i ≤ xs.length → L2.Inv X pins σ (upd H S (.lst acc)) s → H S = none → (∀ c ∈ fpz n, FpOk X pins (upd H S (.lst acc)) c) →
      ZK s.heap n t1 t2 a b i → Sq X.K H t1 a xs → Sq X.K H t2 b ys → acc.length + r.length < sizeLine → zlQ S Q r acc H → codeAny (model X.prog X.w) A (.builtin "list.extend.loop" ⟨[.ref S, .ref (n + 4), res], []⟩) R s := by
  intro r
  induction r with
  | nil =>
    intro i acc H s xs ys hl hr hi I hn hf D q1 q2 hz hq
    have hle : xs.length ≤ i := by
      have := congrArg List.length hr
      rw [List.length_drop, List.length_zip] at this
      simp at this
      omega
    obtain ⟨is1, rv1, p1⟩ := sq_ob I (sq_upd q1 hn)
    obtain ⟨is2, rv2, p2⟩ := sq_ob I (sq_upd q2 hn)
    have e1 := rv1.length
    have e2 := rv2.length
    refine codeAny_builtin F.entry_extend_loop ?_
    rw [Around.under_plainId F.plain_extend_loop _]
    show wpAny _ A.in1 (pyNext (.ref (n + 4)) >>= _) _ _ s
    refine wpAny_bind (zk_stop (A := A.in1) hA D na nb p1 p2 (by simp; omega) (by simp; omega) fun h' ak => ?_)
    exact wpAny_pure (hR _ _ (I.turnedL (t' := s.toks) (ch := fpz n) ak hf) hq)
  | cons p r ih =>
    intro i acc H s xs ys hl hr hi I hn hf D q1 q2 hz hq
    have hlt : i < xs.length := by
      have := congrArg List.length hr
      rw [List.length_drop, List.length_zip] at this
      simp at this
      omega
    have hg : (xs.zip ys)[i]? = some p := by
      have : ((xs.zip ys).drop i)[0]? = some p := by rw [hr]; rfl
      rw [List.getElem?_drop] at this
      exact this
    obtain ⟨g1, g2⟩ := List.getElem?_zip_eq_some.mp hg
    obtain ⟨is1, rv1, p1⟩ := sq_ob I (sq_upd q1 hn)
    obtain ⟨is2, rv2, p2⟩ := sq_ob I (sq_upd q2 hn)
    obtain ⟨u1, hu1, ru1⟩ := rv1.get g1
    obtain ⟨u2, hu2, ru2⟩ := rv2.get g2
    obtain ⟨_, its, c, rvS, hoS⟩ := I.hok S (.lst acc) upd_same
    have hSlt : S < s.heap.objs.size := Heap.lt_size hoS
    refine codeAny_builtin F.entry_extend_loop ?_
    rw [Around.under_plainId F.plain_extend_loop _]
    show wpAny _ A.in1 (pyNext (.ref (n + 4)) >>= _) _ _ s
    refine wpAny_bind (zk_next (A := A.in1) D na nb p1 p2 (by simpa using hu1) (by simpa using hu2) fun h' D' T' hsz ak => ?_)
    have SnF : S ∉ fpz n := by simp; omega
    have hS1 : h'.get? S = some { cls := .type "list", data := .seq its.toArray c } := ak S _ SnF hoS
    have eL := rvS.length
    have hacc : acc.length < sizeLine := by omega
    show wpAny _ A.in1 (updateSeq S (·.push (.ref s.heap.objs.size)) >>= _) _ _ _
    refine wpAny_bind ?_
    refine wpAny_updateSeq hS1 rfl (wpAny_pure ⟨plainId_quiet F.plain_extend_loop _, ?_⟩) (by simp; omega) (by simp; omega)
    have TnS : s.heap.objs.size ≠ S := Nat.ne_of_gt hSlt
    have hTn : (upd H S (.lst acc)) s.heap.objs.size = none := I.hok.fresh (Nat.le_refl _)
    have hTn' : H s.heap.objs.size = none := by rw [upd_ne TnS] at hTn; exact hTn
    have new : ObjOk X.prog X.w (upd (upd H S (.lst acc)) s.heap.objs.size (.tup [p.1, p.2])) h' s.heap.objs.size (.tup [p.1, p.2]) :=
      ⟨by show 2 ≤ sizeLine; decide, [u1, u2], .cons ru1 (.cons ru2 .nil), ⟨_, T', rfl, _, rfl⟩⟩
    have I1 : L2.Inv X pins σ (upd (upd H S (.lst acc)) s.heap.objs.size (.tup [p.1, p.2])) { s with heap := h' } := I.turnedNew (t' := s.toks) (ch := fpz n) ak hf (Nat.le_refl _) new
    have hS2 := Heap.get?_update_self (Obj.mapSeq (·.push (Value.ref s.heap.objs.size))) hS1 rfl
    have k2 : ∀ d u, d ≠ S → h'.get? d = some u → (h'.update S (Obj.mapSeq (·.push (Value.ref s.heap.objs.size)))).get? d = some u := fun d u q e => (Heap.get?_update_other _ _ (Ne.symm q)).trans e
    have I2 : L2.Inv X pins σ (upd (upd (upd H S (.lst acc)) s.heap.objs.size (.tup [p.1, p.2])) S (.lst (acc ++ [.ref s.heap.objs.size]))) { s with heap := h'.update S (Obj.mapSeq (·.push (Value.ref s.heap.objs.size))) } := by
      refine I1.write (t' := s.toks) (x := S) (e := S) ?_ (.inl rfl) k2 ⟨_, hS2⟩ ⟨?_, its ++ [Value.ref s.heap.objs.size], c + 1, rvS.append (show Vals [V.ref s.heap.objs.size] [Value.ref s.heap.objs.size] from .cons rfl .nil), ?_⟩
      · rw [upd_ne (Ne.symm TnS), upd_same]
        trivial
      · rw [List.length_append]
        show acc.length + 1 ≤ sizeLine
        omega
      · rw [hS2]
        simp [Obj.mapSeq]
    rw [upd_comm2 (Ne.symm TnS)] at I2
    have hf2 : ∀ c ∈ fpz n, FpOk X pins (upd (upd H s.heap.objs.size (.tup [p.1, p.2])) S (.lst (acc ++ [.ref s.heap.objs.size]))) c := fun c hc => by
      obtain ⟨f1, f2⟩ := hf c hc
      have cS : c ≠ S := fun z => SnF (z ▸ hc)
      have cT : c ≠ s.heap.objs.size := by
        have lt := D.lt
        have e' : c = n ∨ c = n + 1 ∨ c = n + 2 ∨ c = n + 3 ∨ c = n + 4 := by simpa using hc
        rcases e' with z | z | z | z | z <;> rw [z] <;> exact Nat.ne_of_lt (by omega)
      rw [upd_ne cS] at f1
      exact ⟨by rw [upd_ne cS, upd_ne cT]; exact f1, f2⟩
    have D2 : ZK (h'.update S (Obj.mapSeq (·.push (Value.ref s.heap.objs.size)))) n t1 t2 a b (i + 1) := by
      rcases D' with ⟨x1, x2, ⟨y1, y2, x3⟩, x4, x5⟩ | ⟨T, ⟨f, x1⟩, ⟨o, al⟩, ne, x2, x4, x5⟩
      · exact .inl ⟨k2 _ _ (by omega) x1, k2 _ _ (by omega) x2, ⟨y1, y2, k2 _ _ (by omega) x3⟩, x4.at fun o q => k2 _ o (by omega) q, x5.at fun o q => k2 _ o (by omega) q⟩
      · refine .inr ⟨T, ⟨f, k2 _ _ (by omega) x1⟩, ?_, ne, k2 _ _ (by omega) x2, x4.at fun o q => k2 _ o (by omega) q, x5.at fun o q => k2 _ o (by omega) q⟩
        by_cases hT : T = S
        · subst hT
          exact ⟨_, hS2⟩
        · exact ⟨o, k2 _ _ hT al⟩
    refine ih (i + 1) (acc ++ [.ref s.heap.objs.size]) (upd H s.heap.objs.size (.tup [p.1, p.2])) _ xs ys hl ?_ hlt I2 ?_ hf2 D2 (sq_upd q1 hTn') (sq_upd q2 hTn') ?_ (hq _ hTn' TnS)
    · have := congrArg List.tail hr
      rw [List.tail_drop] at this
      exact this
    · rw [upd_ne (Ne.symm TnS)]
      exact hn
    · have hz : acc.length + (r.length + 1) < sizeLine := hz
      rw [List.length_append]
      show acc.length + 1 + r.length < sizeLine
      omega
end
end DL


set_option Elab.async false
set_option linter.all false
set_option maxRecDepth 100000
set_option maxHeartbeats 2000000
/-! DLY3: the expression list(zip(xs, ys, strict=True)). -/
namespace DL
open PySem PySem.Spec PyProof.Rows L2
section
variable {X : Cx} {pins : List (Addr × Obj)} {σ : L2.St} {H : Hp} {s : Shared} {n a b : Nat} {t1 t2 : Bool} {xs ys : List V} {Q : VK}
theorem call_listZ (hc : X.calm = true) (I : L2.Inv X pins σ H s) (D : Z2 s.heap n true t1 t2 a b 0) (hf : ∀ c ∈ fpz n, FpOk X pins H c) (na : a < n) (nb : b < n) (q1 : Sq X.K H t1 a xs) (q2 : Sq X.K H t2 b ys) (hl : xs.length = ys.length) (hz : xs.length < sizeLine)
    (q : ∀ S, H S = none → zlQ S Q (xs.zip ys) [] H) : wpAny (model X.prog X.w) X.A (call (.type "list") [.ref (n + 4)]) (EP X pins σ Q) X.xe s := by
  have hnS : n + 4 < s.heap.objs.size := Heap.lt_size D.z
  have hSa : s.heap.objs.size ≠ n + 4 := Nat.ne_of_gt hnS
  have hA : X.A.handled = none := I.ok.hd hc
  refine callType_codes (Q₁ := fun obj s₁ => obj = .ref s.heap.objs.size ∧ s₁ = { s with heap := s.heap.push { cls := .type "list", data := .seq #[] } }) F.called_list (F.typeCall_list_1 _) F.entry_list_init
    (code_list_new _ ⟨rfl, rfl⟩) fun obj s₁ h₁ => ?_
  obtain ⟨rfl, rfl⟩ := h₁
  have hS : (s.heap.push { cls := .type "list", data := .seq #[] }).get? s.heap.objs.size = some { cls := .type "list", data := .seq #[] } := Heap.get?_push_size _ rfl
  refine ⟨⟨_, hS, rfl⟩, F.args_list_init_2 _ _, ?_⟩
  have key : ∀ (h : Heap) (c tk : Nat) (R : Result → Shared → Prop), (∀ b o, s.heap.get? b = some o → h.get? b = some o) → h.get? s.heap.objs.size = some { cls := .type "list", data := .seq #[] c } →
      (∀ (s' : Shared) (H' : Hp), L2.Inv X pins σ H' s' → Q (.ref s.heap.objs.size) H' → R (.ok (.ret .none)) s') →
      codeAny (model X.prog X.w) X.A.in1 (.builtin "list.extend.loop" ⟨[.ref s.heap.objs.size, .ref (n + 4), .none], []⟩) R { s with heap := h, toks := tk } := fun h c tk R k hS hR => by
    have fresh : H s.heap.objs.size = none := I.hok.fresh (Nat.le_refl _)
    have I1 : L2.Inv X pins σ (upd H s.heap.objs.size (.lst [])) { s with heap := h, toks := tk } := I.laid (t' := tk) k (Nat.le_refl _) ⟨Nat.zero_le _, [], c, .nil, hS⟩
    refine drainZ (A := X.A.in1) (Q := Q) hA na nb hnS hR (xs.zip ys) 0 [] H _ xs ys hl rfl (Nat.zero_le _) I1 fresh (fun d hd => ?_) ((show ZK s.heap n t1 t2 a b 0 from .inl D).at k) q1 q2 ?_ (q _ fresh)
    · obtain ⟨f1, f2⟩ := hf d hd
      have e' : d = n ∨ d = n + 1 ∨ d = n + 2 ∨ d = n + 3 ∨ d = n + 4 := by simpa using hd
      have cT : d ≠ s.heap.objs.size := by
        rcases e' with z | z | z | z | z <;> rw [z] <;> exact Nat.ne_of_lt (by omega)
      exact ⟨by rw [upd_ne cT]; exact f1, f2⟩
    · rw [List.length_zip]
      show 0 + min xs.length ys.length < sizeLine
      omega
  show wpAny _ X.A.in1.in1 (do let old ← Builtin.List.listItems (.ref s.heap.objs.size); Builtin.List.listUpdate (.ref s.heap.objs.size) (fun _ => #[]); letGo old.toList.reverse; Builtin.List.listExtendWith (.ref s.heap.objs.size) (.ref (n + 4)) .none) _ _ _
  refine wpAny_bind ?_
  unfold Builtin.List.listItems
  refine wpAny_bind (wpAny_seqItems hS rfl (wpAny_pure ?_))
  show wpAny _ X.A.in1.in1 (updateSeq s.heap.objs.size (fun _ => #[]) >>= fun _ => letGo (#[] : Array Value).toList.reverse >>= fun _ => Builtin.List.listExtendWith (.ref s.heap.objs.size) (.ref (n + 4)) .none) _ _ _
  refine wpAny_bind (wpAny_updateSeq hS rfl ?_)
  have hS2 := Heap.get?_update_self (Obj.mapSeq (fun _ => (#[] : Array Value))) hS rfl
  refine wpAny_bind (wpAny_letGo ?_)
  unfold Builtin.List.listExtendWith
  have up : ∀ (h : Heap) (f : Obj → Obj), (∀ b o, s.heap.get? b = some o → h.get? b = some o) → ∀ b o, s.heap.get? b = some o → (h.update s.heap.objs.size f).get? b = some o := fun h f q b o e =>
    (Heap.get?_update_other _ _ (Ne.symm (Nat.ne_of_lt (Heap.lt_size e)))).trans (q b o e)
  have k1 : ∀ b o, s.heap.get? b = some o → (s.heap.push { cls := .type "list", data := .seq #[] }).get? b = some o := fun b o e => Heap.get?_push_of_some _ e
  have k2 := up _ (Obj.mapSeq (fun _ => (#[] : Array Value))) k1
  have gz : ∀ {h : Heap}, (∀ b o, s.heap.get? b = some o → h.get? b = some o) → ZipO h (n + 4) (n + 2) (n + 3) .none true := fun {h} q => q _ _ D.z
  refine wpAny_bind (wpAny_typeOf (T := "zip") ⟨_, gz k2, rfl⟩ ?_)
  have h1 : Builtin.List.listSameRef (.ref s.heap.objs.size) (.ref (n + 4)) = false := by simp [Builtin.List.listSameRef, hSa]
  have h2 : (Value.type "zip" == Value.type "list") = false := by decide
  have h3 : (Value.type "zip" == Value.type "tuple") = false := by decide
  simp only [h1, h2, h3, Bool.or_false, Bool.false_eq_true, if_false]
  refine wpAny_bind (iterZ (s := { s with heap := _ }) (gz k2) ?_)
  refine wpAny_bind (wpAny_holding ?_)
  unfold Builtin.List.listLengthHint
  refine wpAny_bind (wpAny_specialOf (T := "zip") ⟨_, gz k2, rfl⟩ zip_no_len ?_)
  show wpAny _ X.A.in1.in1 (specialOf (Value.ref (n + 4)) (Str.ofString "__length_hint__") >>= _) _ _ _
  refine wpAny_bind (wpAny_specialOf (T := "zip") ⟨_, gz k2, rfl⟩ zip_no_hint ?_)
  refine wpAny_pure ?_
  show wpAny _ X.A.in1.in1 (rule "list.extend.makes-room" >>= fun _ => Builtin.List.listTouch (.ref s.heap.objs.size) >>= fun _ =>
    again (.builtin "list.extend.loop" ⟨[.ref s.heap.objs.size, .ref (n + 4), .none], []⟩)) _ _ _
  refine wpAny_bind (wpAny_rule ?_)
  refine wpAny_bind ?_
  show wpAny _ X.A.in1.in1 (updateSeq s.heap.objs.size (·.push .none) >>= fun _ => updateSeq s.heap.objs.size (·.pop)) _ _ _
  refine wpAny_bind (wpAny_updateSeq hS2 rfl ?_)
  have hS3 := Heap.get?_update_self (Obj.mapSeq (·.push Value.none)) hS2 rfl
  refine wpAny_updateSeq (hz := by seq_fits) hS3 rfl ?_
  have hS4 := Heap.get?_update_self (Obj.mapSeq (·.pop)) hS3 rfl
  have k4 := up _ (Obj.mapSeq (·.pop)) (up _ (Obj.mapSeq (·.push Value.none)) k2)
  refine wpAny_pure ⟨plainId_quiet F.plain_extend_loop _, ?_⟩
  exact key _ _ s.toks _ k4 hS4 fun s' H' I' q' => ⟨rfl, .ref s.heap.objs.size, H', I', rfl, q'⟩
variable {e e2 : Expr} {ta : TA} {p p2 pos pos2 kp kq : Pos} {kj : Nat}
def tLz (K : PySem.W.Frag) (ta : TA) : TE := fun σ H Q => ta σ H fun vs H1 => ∃ (a b : Nat) (t1 t2 : Bool) (xs ys : List V), vs = [.ref a, .ref b] ∧ Sq K H1 t1 a xs ∧ Sq K H1 t2 b ys ∧ xs.length = ys.length ∧ xs.length < sizeLine ∧ ∀ S, H1 S = none → zlQ S Q (xs.zip ys) [] H1
theorem pe_listZ (hc : X.calm = true) (hgl : Gl X "list") (hml : X.mg "list" = none) (hg : Gl X "zip") (hm : X.mg "zip" = none) (ha : PA X [e, e2] ta) (hs : starEach [e, e2] X.env = (false, eval e X.env) :: starEach [e2] X.env) (hpl : (backTo pos2 (starEach [e2] X.env)).any (·.1) = false)
    (nn : starEach [.Call (.Name "zip" p2) [e, e2] (kwE true kj kp kq) pos2] X.env = (false, eval (.Call (.Name "zip" p2) [e, e2] (kwE true kj kp kq) pos2) X.env) :: starEach [] X.env := by rfl) :
    PE X (.Call (.Name "list" p) [.Call (.Name "zip" p2) [e, e2] (kwE true kj kp kq) pos2] [] pos) (tLz X.K ta) := by
  refine ⟨fun pins s σ H Q I h => ?_⟩
  refine Call_ (ld_blt I hgl hml PyProof.Rows.boot_list (PyProof.Rows.callWith_type1 (args_cons (zip_call hg hm ha hs hpl I h fun us vs H1 s1 I1 r1 q1 => ?_) nn) nn))
  obtain ⟨a, b, t1, t2, xs, ys, ev, q0, q1, hl, hz, q⟩ := q1
  subst ev
  cases r1 with
  | cons r rr =>
    cases rr with
    | cons r' rr =>
      cases rr
      cases r
      cases r'
      obtain ⟨i1, rv1, p1⟩ := sq_ob I1 q0
      obtain ⟨i2, rv2, p2⟩ := sq_ob I1 q1
      refine call_z2 p1 p2 fun h' D hk => args_nil ?_
      have I2 : L2.Inv X pins σ H1 { s1 with heap := h' } := I1.kept (t' := s1.toks) hk
      have n1 : a < s1.heap.objs.size := p1.lt
      have n2 : b < s1.heap.objs.size := p2.lt
      exact call_listZ hc I2 D (fun c hc => by
        have hle : s1.heap.objs.size ≤ c := by
          have e' : c = s1.heap.objs.size ∨ c = s1.heap.objs.size + 1 ∨ c = s1.heap.objs.size + 2 ∨ c = s1.heap.objs.size + 3 ∨ c = s1.heap.objs.size + 4 := by simpa using hc
          rcases e' with z | z | z | z | z <;> rw [z] <;> first | exact Nat.le_refl _ | exact Nat.le_add_right _ _
        exact I1.fpOk hle (I1.hok.fresh hle)) n1 n2 q0 q1 hl hz q
end
end DL


set_option Elab.async false
set_option linter.all false
set_option maxRecDepth 100000
set_option maxHeartbeats 2000000
/-! DLY4: list(zip(..)), list(range(..)) as terms. -/
namespace DL
open PySem PySem.Spec PyProof.Rows L2
section
variable {K : PySem.W.Frag} {xo : XO} {mg : Str → Option Value} {W : WX} {G : List D} {Γ : List Fn} {σ : L2.St} {H : Hp} {Q : VK} {B : FB}
theorem bind_assocR {α β γ : Type} (m : R α) (f : α → Env → R β) (g : β → Env → R γ) : (m.bind f).bind g = m.bind fun x e => (f x e).bind g := by cases m <;> rfl
theorem zl_ok {S : Addr} {e : Env} : ∀ {vs us : List V} {ds es : List D} {F H : Hp} {acc : List V} {ac : List D}, Rel K xo B F σ H e → H S = none → DenAll K xo F vs ds → DenAll K xo F us es → DenAll K xo F acc ac →
    PostE K xo mg W B σ F (.ok (.fr (ac ++ zipAll [ds, es])) e) Q → zlQ S Q (vs.zip us) acc H
  | _, _, _, _, F, H, acc, ac, r, hS, .nil, _, a, post => by
    have post : PostE K xo mg W B σ F (.ok (.fr (ac ++ [])) e) Q := post
    rw [List.append_nil] at post
    exact post_lst r post a S hS
  | _, _, _, _, F, H, acc, ac, r, hS, .cons d1 r1, .nil, a, post => by
    have post : PostE K xo mg W B σ F (.ok (.fr (ac ++ [])) e) Q := post
    rw [List.append_nil] at post
    exact post_lst r post a S hS
  | _, _, _, _, F, H, acc, ac, r, hS, .cons (v := v) (d := d) d1 r1, .cons (v := u) (d := d') d2 r2, a, post => fun T hT ne => by
    have sf := same_upd (o := HO.tup [v, u]) (r.f0 hT)
    refine zl_ok (r.laid hT) (by rw [upd_ne (Ne.symm ne)]; exact hS) (r1.mono sf) (r2.mono sf) ((a.mono sf).append (.cons (.tup (.inl (.inl upd_same)) (.cons (d1.mono sf) (.cons (d2.mono sf) .nil))) .nil)) ?_
    rw [List.append_assoc]
    exact post.sub sf
theorem sem_lz {es : Exs} {e0 e2 : Ex} (hes : es = .cons e0 (.cons e2 .nil)) (h : tE K xo mg G Γ W (.lit_ (.zip true es)) σ H Q) : tLz K (tEs K xo mg G Γ W es) σ H Q := by
  obtain ⟨B, F, e, r, h⟩ := h
  have h : PostE K xo mg W B σ F (((evEs G Γ es e).bind fun xs e1 => toR (zipD true xs) e1).bind fun xs e1 => if xs.length ≤ lim then .ok (.fr xs) e1 else .bad) Q := h
  rw [bind_assocR] at h
  have hl : ∀ xs e1, evEs G Γ es e = .ok xs e1 → xs.length = 2 := by
    intro xs e1 q
    rw [hes] at q
    have q : ((evE G Γ e0 e).bind fun x e1 => (((evE G Γ e2 e1).bind fun y e3 => R.ok (y.fz :: []) e3)).bind fun xs e3 => R.ok (x.fz :: xs) e3) = .ok xs e1 := q
    obtain ⟨x, e3, _, q⟩ := bind_ok q
    obtain ⟨ys, e4, q0, q⟩ := bind_ok q
    obtain ⟨y, e5, _, q0⟩ := bind_ok q0
    injection q0 with q1 q2
    injection q with q3 q4
    rw [← q3, ← q1]
    rfl
  refine ⟨B, F, e, r, ?_⟩
  have h2 := bindXE h
  cases q : evEs G Γ es e with
  | bad => rw [q] at h2; exact h2
  | exn c ps e => rw [q] at h2; exact h2
  | ok xs e1 =>
    rw [q] at h2
    have h1 := hl xs e1 q
    refine fun H1 F1 r1 s1 vs dv => ?_
    have hp := h2 H1 F1 r1 s1
    match xs, h1, dv, hp with
    | [x, y], _, dv, hp =>
      cases dv with
      | cons d1 dr =>
        cases dr with
        | cons d2 dr =>
          cases dr
          cases ex : items? x with
          | none =>
            have e0 : zipD true [x, y] = none := by unfold zipD; simp only [List.map_cons, List.map_nil, ex]
            rw [e0] at hp
            exact hp.elim
          | some us =>
            cases ey : items? y with
            | none =>
              have e0 : zipD true [x, y] = none := by unfold zipD; simp only [List.map_cons, List.map_nil, ex, ey]
              rw [e0] at hp
              exact hp.elim
            | some ws =>
              have ed : zipD true [x, y] = if us.length = ws.length then some (zipAll [us, ws]) else none := by
                unfold zipD
                simp only [List.map_cons, List.map_nil, ex, ey, true_implies]
              rw [ed] at hp
              by_cases hs : us.length = ws.length
              · rw [if_pos hs] at hp
                have hp : PostE K xo mg W B σ F1 (if (zipAll [us, ws]).length ≤ lim then .ok (.fr (zipAll [us, ws])) e1 else .bad) Q := hp
                by_cases hz : (zipAll [us, ws]).length ≤ lim
                · rw [if_pos hz] at hp
                  obtain ⟨t1, p1, vs1, e1', hq1, da1⟩ := den_items d1 ex
                  obtain ⟨t2, p2, vs2, e2', hq2, da2⟩ := den_items d2 ey
                  subst e1' e2'
                  have l1 := da1.length
                  have l2 := da2.length
                  have hz2 : us.length ≤ lim := by
                    have : (zipAll [us, ws]).length = min us.length ws.length := by
                      show ((us.zip ws).map fun p => PyData.tuple [p.1, p.2]).length = _
                      rw [List.length_map, List.length_zip]
                    omega
                  refine ⟨p1, p2, t1, t2, vs1, vs2, rfl, sq_mono r1.sub hq1, sq_mono r1.sub hq2, by omega, ?_, fun S hS => ?_⟩
                  · rw [l1]
                    exact Nat.lt_of_le_of_lt hz2 (by decide)
                  · exact zl_ok (ac := []) r1 hS da1 da2 .nil hp
                · rw [if_neg hz] at hp
                  exact hp.elim
              · rw [if_neg hs] at hp
                exact hp.elim
theorem den_rngI {F : Hp} : ∀ (n : Nat) (a : Int), DenAll K xo F ((List.range n).map fun i => V.int (a + (i : Nat))) (rngI a n)
  | 0, _ => .nil
  | n + 1, a => by
    rw [List.range_succ_eq_map, List.map_cons, List.map_map]
    refine .cons ?_ ?_
    · show Den K xo F (.int (a + ((0 : Nat) : Int))) (.int a)
      rw [show a + ((0 : Nat) : Int) = a by omega]
      exact .int _
    · have := den_rngI (F := F) n (a + 1)
      have e : ((fun i : Nat => V.int (a + (i : Nat))) ∘ Nat.succ) = fun i : Nat => V.int (a + 1 + (i : Nat)) := by
        funext i
        show V.int (a + ((i + 1 : Nat) : Int)) = _
        congr 1
        omega
      rw [e]
      exact this
theorem rngI_lenR : ∀ (n : Nat) (a : Int), (rngI a n).length = n
  | 0, _ => rfl
  | n + 1, a => congrArg (· + 1) (rngI_lenR n (a + 1))
theorem sem_lr {a : Ex} (h : tE K xo mg G Γ W (.lit_ (.rng (.cons a .nil))) σ H Q) : tLstRg (tRg1 (tE K xo mg G Γ W a)) σ H Q := by
  obtain ⟨B, F, e, r, h⟩ := h
  have h : PostE K xo mg W B σ F ((((evE G Γ a e).bind fun x e1 => (R.ok [] e1).bind fun xs e3 => R.ok (x.fz :: xs) e3).bind fun xs e1 => toR (rngD xs) e1).bind fun xs e1 => if xs.length ≤ lim then .ok (.fr xs) e1 else .bad) Q := h
  rw [bind_assocR, bind_assocR] at h
  refine tE_bind r h (fun x y e q => by rw [q]) fun x e1 v H1 F1 r1 s1 dv hp => ?_
  have hp : PostE K xo mg W B σ F1 ((toR (rngD [x]) e1).bind fun xs e1 => if xs.length ≤ lim then .ok (.fr xs) e1 else .bad) Q := hp
  cases x with
  | int j =>
    have ej : rngD [.int j] = if big j = true then some (rngI 0 j.toNat) else none := rfl
    rw [ej] at hp
    by_cases hb : big j = true
    · rw [if_pos hb] at hp
      have hp : PostE K xo mg W B σ F1 (if (rngI 0 j.toNat).length ≤ lim then .ok (.fr (rngI 0 j.toNat)) e1 else .bad) Q := hp
      by_cases hz : (rngI 0 j.toNat).length ≤ lim
      · rw [if_pos hz] at hp
        rw [rngI_lenR] at hz
        cases dv
        have hz2 : j.toNat ≤ 1048576 := hz
        have hb2 : -1000000000 ≤ j ∧ j ≤ 1000000000 := by
          unfold big at hb
          simp only [Bool.and_eq_true, decide_eq_true_eq] at hb
          exact hb
        refine ⟨j, rfl, ⟨by omega, by omega, by omega, by omega, by omega⟩, ?_⟩
        have d := den_rngI (K := K) (xo := xo) (F := F1) j.toNat 0
        refine post_lst r1 hp ?_
        unfold rgV
        rw [show (j - 0).toNat = j.toNat by omega]
        exact d
      · rw [if_neg hz] at hp
        exact hp.elim
    · rw [if_neg hb] at hp
      exact hp.elim
  | none => exact hp.elim
  | bool _ => exact hp.elim
  | str _ => exact hp.elim
  | list _ => exact hp.elim
  | tuple _ => exact hp.elim
  | dict _ => exact hp.elim
end
end DL


set_option Elab.async false
set_option linter.all false
set_option maxRecDepth 100000
set_option maxHeartbeats 8000000
/-! DL17: the main theorem of terms. -/
namespace DL
open PySem PySem.Spec PyProof.Rows L2

theorem _root_.L2.PE.imp {X : Cx} {e : Expr} {t t' : TE} (h : PE X e t) (i : ∀ σ H Q, t' σ H Q → t σ H Q) : PE X e t' := DL.PE.imp h i
theorem _root_.L2.PT.imp {X : Cx} {e : Expr} {t t' : TT} (h : PT X e t) (i : ∀ σ H Q, t' σ H Q → t σ H Q) : PT X e t' := DL.PT.imp h i
theorem _root_.L2.PA.imp {X : Cx} {e : List Expr} {t t' : TA} (h : PA X e t) (i : ∀ σ H Q, t' σ H Q → t σ H Q) : PA X e t' := DL.PA.imp h i
theorem _root_.L2.PI.imp {X : Cx} {g e : Expr} {t t' : TI} (h : PI X g e t) (i : ∀ σ H Q, t' σ H Q → t σ H Q) : PI X g e t' := DL.PI.imp h i
theorem _root_.L2.PO.imp {X : Cx} {e : Option Expr} {t t' : TO} (h : PO X e t) (i : ∀ σ H Q, t' σ H Q → t σ H Q) : PO X e t' := DL.PO.imp h i
theorem _root_.L2.PTs.imp {X : Cx} {e : List Expr} {t t' : TT} (h : PTs X e t) (i : ∀ σ H Q, t' σ H Q → t σ H Q) : PTs X e t' := DL.PTs.imp h i
theorem pt_ife {X : Cx} {c a b : Expr} {tc ta tb : TT} {pos : Pos} (hc : PT X c tc) (ha : PT X a ta) (hb : PT X b tb) : PT X (.IfExp c a b pos) (tIfT tc ta tb) := by
  refine ⟨fun pins s σ H Q I h => ?_⟩
  show wpAny _ _ (do if ← isTrue c X.env (eval c X.env) then isTrue a X.env (eval a X.env) else isTrue b X.env (eval b X.env)) _ _ s
  refine wpAny_bind (thn (hc.run pins s σ H _ I h) fun d s1 ⟨H1, I1, q1⟩ => ?_)
  cases d with
  | true =>
    rw [if_pos rfl] at q1 ⊢
    exact ha.run pins s1 σ H1 Q I1 q1
  | false =>
    rw [if_neg Bool.false_ne_true] at q1 ⊢
    exact hb.run pins s1 σ H1 Q I1 q1
theorem pt_pw {X : Cx} {o : BoolOp} {es : List Expr} {pos : Pos} {t : TT} (h : PT X (.BoolOp o es pos) t) : PW X (.BoolOp o es pos) t := ⟨fun _ pins s σ H Q I q => h.run pins s σ H Q I q⟩
theorem kwB_e {st : Bool} {kws : List Keyword} (h : kwB st kws = true) : ∃ j p q, kws = kwE st j p q := by
  unfold kwB at h
  split at h
  · cases st with
    | false => exact ⟨0, default, default, rfl⟩
    | true => cases h
  · cases st with
    | false => cases h
    | true =>
      rename_i x j p q
      have e : x = ("strict" : Str) := by simpa using h
      subst e
      exact ⟨j, p, q, rfl⟩
  · cases h
section
variable {K : PySem.W.Frag} {xo : XO} {mg : Str → Option Value} {G : List D} {Γ : List Fn} {W : WX} {σ : L2.St} {H : Hp}
theorem sem_nil {Q : List V → Hp → Prop} (h : tEs K xo mg G Γ W .nil σ H Q) : tNil σ H Q := by
  obtain ⟨B, F, e, r, h⟩ := h
  exact h H F r (Same.refl _) [] .nil
theorem sem_non {Q : Option Int → Hp → Prop} (h : tO K xo mg G Γ W .non σ H Q) : tNoPart σ H Q := by
  obtain ⟨B, F, e, r, h⟩ := h
  exact h H F r (Same.refl _)
theorem sem_yes {Q : Bool → Hp → Prop} (h : tOT K xo mg G Γ W .non σ H Q) : tYes σ H Q := by
  obtain ⟨B, F, e, r, h⟩ := h
  exact h H F r (Same.refl _)
theorem sem_test {a : Ex} {Q : Bool → Hp → Prop} (h : tOT K xo mg G Γ W (.som a) σ H Q) : tT K xo mg G Γ W a σ H Q := h
theorem sem_gl {k : Nat} {d : D} {v : V} {Q : VK} (hd : G[k]? = some d) (h : tE K xo mg G Γ W (.gl k) σ H Q) (dn : ∀ F, Den K xo F v d) : Q v H := by
  obtain ⟨B, F, e, r, h⟩ := h
  have h : PostE K xo mg W B σ F (match G[k]? with
    | some x => R.ok (DV.d x) e
    | none => R.bad) Q := h
  rw [hd] at h
  exact post_val r h (dn F)
theorem sem_gl0 {k : Nat} {Q : VK} (hd : G[k]? = none) (h : tE K xo mg G Γ W (.gl k) σ H Q) : False := by
  obtain ⟨B, F, e, r, h⟩ := h
  have h : PostE K xo mg W B σ F (match G[k]? with
    | some x => R.ok (DV.d x) e
    | none => R.bad) Q := h
  rw [hd] at h
  exact h
end
section
variable {cf : Cf} {G : List D} {Γ : List Fn} {xo : XO}
theorem plT {X : Cx} {W : WX} {a : Ex} {e : Expr} (h : PE X e (tE X.K xo X.mg G Γ W a)) (he : ∀ whole, isTrue e X.env whole = (do let v ← whole; standAt e.pos; holding [v] (truthy v))) :
    PE X e (tE X.K xo X.mg G Γ W a) ∧ PT X e (tT X.K xo X.mg G Γ W a) := ⟨h, (pt_truth h he).imp fun σ H Q q => sem_truth q⟩
theorem ckEs_any {sc : Scope} {fc : Option Scope} : ∀ {es : Exs} {ls : List Expr} {env : PySem.Env} {pos : Pos}, ckEs cf sc fc es ls = true → (backTo pos (starEach ls env)).any (·.1) = false
  | .nil, [], _, _, _ => rfl
  | .cons a as, e :: es, env, pos, h => by
    have h' : (argB e && ckE cf sc fc a e && ckEs cf sc fc as es) = true := h
    simp only [Bool.and_eq_true] at h'
    rw [starOf h'.1.1]
    show (false || (backTo pos (starEach es env)).any (·.1)) = false
    rw [ckEs_any h'.2]
    rfl
  | .nil, _ :: _, _, _, h => nomatch h
  | .cons _ _, [], _, _, h => nomatch h
theorem ckEs_star {sc : Scope} {fc : Option Scope} {es : Exs} {e : Expr} {ls : List Expr} {env : PySem.Env} (h : ckEs cf sc fc es (e :: ls) = true) : starEach (e :: ls) env = (false, eval e env) :: starEach ls env := by
  cases es with
  | nil => exact nomatch h
  | cons a as =>
    have h' : (argB e && ckE cf sc fc a e && ckEs cf sc fc as ls) = true := h
    simp only [Bool.and_eq_true] at h'
    exact starOf h'.1.1
theorem ckEs_tl {sc : Scope} {fc : Option Scope} {es : Exs} {e : Expr} {ls : List Expr} {env : PySem.Env} {pos : Pos} (h : ckEs cf sc fc es (e :: ls) = true) : (backTo pos (starEach ls env)).any (·.1) = false := by
  cases es with
  | nil => exact nomatch h
  | cons a as =>
    have h' : (argB e && ckE cf sc fc a e && ckEs cf sc fc as ls) = true := h
    simp only [Bool.and_eq_true] at h'
    exact ckEs_any h'.2
theorem argB_name {x : Str} {p : Pos} {es : List Expr} {env : PySem.Env} : starEach (.Name x p :: es) env = (false, eval (.Name x p) env) :: starEach es env := rfl
theorem biVal_cases (f : Bi) (hf : ∀ t, f ≠ .isi t) : (∃ id, biVal f = .builtin id) ∨ ∃ T, biVal f = .type T := by
  cases f <;> first | exact .inl ⟨_, rfl⟩ | exact .inr ⟨_, rfl⟩
theorem bi_nm (f : Bi) : (biName f == ("__debug__" : Str)) = false ∧ biName f ≠ ("__name__" : Str) := by
  cases f with
  | isi t => cases t <;> exact ⟨by decide +kernel, by decide +kernel⟩
  | _ => exact ⟨by decide +kernel, by decide +kernel⟩
theorem ty_nm (t : Ty) : (Str.ofString (tyStr t) == ("__debug__" : Str)) = false ∧ Str.ofString (tyStr t) ≠ ("__name__" : Str) := by
  cases t <;> exact ⟨by decide +kernel, by decide +kernel⟩
theorem bi_mem (f : Bi) : biName f ∈ bNames := by
  cases f with
  | isi t => cases t <;> decide +kernel
  | _ => decide +kernel
theorem ty_mem (t : Ty) : Str.ofString (tyStr t) ∈ bNames := by
  cases t <;> decide +kernel
theorem XOk.blt {X : Cx} {sc : Scope} {fc : Option Scope} {W : WX} (o : XOk X cf sc fc G Γ xo W) {x : Str} (h : x ∈ bNames) : X.mg x = none := o.m.blt x h
/-- a block's facts -/
theorem XOk.blk {X : Cx} {sc : Scope} {fc : Option Scope} {W : WX} (o : XOk X cf sc fc G Γ xo W) (scope : Scope) (s : Shared) (H : Hp) (C : Addr) (cl : List (Str × Addr)) (fp : List Addr) :
    XOk (X.blk s H scope (compEnvC scope cl C X.env) fp) cf (relS scope sc) (some scope) G Γ xo W0 where
  m := o.m
  hN := o.hN
  nd := o.nd
  hsc := by rw [← o.hsc]; rfl
  calm := o.calm
  fn := fun x h => by
    have e : (X.blk s H scope (compEnvC scope cl C X.env) fp).env.scope = relS scope sc := by rw [← o.hsc]; rfl
    rw [e]
    unfold stB at h
    split at h
    · exact .inr (by assumption)
    · exact .inl h
    · cases h
  tk := takes0
mutual
theorem okE : ∀ (a : Ex) {X : Cx} {sc : Scope} {fc : Option Scope} {W : WX} (o : XOk X cf sc fc G Γ xo W) (e : Expr), ckE cf sc fc a e = true → PE X e (tE X.K xo X.mg G Γ W a) ∧ PT X e (tT X.K xo X.mg G Γ W a)
  | .lit c, X, sc, fc, W, o, e, h => by
    cases e with
    | Constant k j pos =>
      cases c <;> cases k <;> first
        | exact absurd (show false = true from h) (by decide)
        | exact plT (pe_non.imp fun σ H Q q => sem_lit q fun _ => .non) (fun _ => rfl)
        | (rename_i b c
           have e : b = c := by simpa [ckE, ckLit] using h
           subst e
           exact plT (pe_bl.imp fun σ H Q q => sem_lit q fun _ => .bl _) (fun _ => rfl))
        | (rename_i b c
           have e : b = c := by simpa [ckE, ckLit] using h
           subst e
           exact plT (pe_int.imp fun σ H Q q => sem_lit q fun _ => .int _) (fun _ => rfl))
        | (rename_i b c
           have e : b = c := by simpa [ckE, ckLit] using h
           subst e
           exact plT (pe_str.imp fun σ H Q q => sem_lit q fun _ => .str _) (fun _ => rfl))
    | _ => cases c <;> exact absurd (show false = true from h) (by decide)
  | .v i, X, sc, fc, W, o, e, h => by
    cases e with
    | Name x pos =>
      obtain ⟨h1, h2, h3, h4⟩ := o.nm (show nmB cf sc i x = true from h)
      exact plT ((pe_var h1 h2 h3 h4).imp fun σ H Q q => sem_v q) (fun _ => rfl)
    | _ => exact nomatch h
  | .frz i, X, sc, fc, W, o, e, h => by
    cases e with
    | Name x pos =>
      obtain ⟨h1, h2, h3, h4⟩ := o.nm (show nmB cf sc i x = true from h)
      exact plT ((pe_var h1 h2 h3 h4).imp fun σ H Q q => sem_frz q) (fun _ => rfl)
    | _ => exact nomatch h
  | .tk i, X, sc, fc, W, o, e, h => by
    cases e with
    | Name x pos =>
      obtain ⟨h1, h2, h3, h4⟩ := o.nm (show nmB cf sc i x = true from h)
      exact plT ((pe_var h1 h2 h3 h4).imp fun σ H Q q => sem_tk q) (fun _ => rfl)
    | _ => exact nomatch h
  | .oix i b, X, sc, fc, W, o, e, h => by
    cases e with
    | Subscript l r pos =>
      cases l with
      | Name x p =>
        have h : (nmB cf sc i x && plainB r && ckE cf sc fc b r) = true := h
        simp only [Bool.and_eq_true] at h
        obtain ⟨h1, h2, h3, h4⟩ := o.nm h.1.1
        exact plT ((pe_ix (ix_list.or ix_tup) (pe_var h1 h2 h3 h4) (okE b o r h.2).1 (plainOf h.1.2)).imp fun σ H Q q => sem_oix q) (fun _ => rfl)
      | _ => exact nomatch h
    | _ => exact nomatch h
  | .oadd a i, X, sc, fc, W, o, e, h => by
    cases e with
    | BinOp l p r pos =>
      cases p with
      | Add =>
        cases r with
        | Name x p2 =>
          have h : (nmB cf sc i x && ckE cf sc fc a l) = true := h
          simp only [Bool.and_eq_true] at h
          obtain ⟨h1, h2, h3, h4⟩ := o.nm h.1
          exact plT ((pe_op op_cat (okE a o l h.2).1 (pe_var h1 h2 h3 h4)).imp fun σ H Q q => sem_oadd q) (fun _ => rfl)
        | _ => exact nomatch h
      | _ => exact nomatch h
    | _ => exact nomatch h
  | .olen i, X, sc, fc, W, o, e, h => by
    cases e with
    | Call f args kws pos =>
      cases f with
      | Name y p =>
        match args, kws, h with
        | [.Name x p2], [], h =>
          have h : ((y == ("len" : Str) && glB sc y) && nmB cf sc i x) = true := h
          simp only [Bool.and_eq_true] at h
          obtain ⟨h1, h2, h3, h4⟩ := o.nm h.2
          have ey : y = ("len" : Str) := by simpa using h.1.1
          subst ey
          have hb : bootBuiltins "len" = some (.builtin "len") := bi_boot .len
          exact plT ((pe_callB (r := rLen2 X.K) call_len_seq (o.gl h.1.2) (o.blt (bi_mem .len)) hb (pa_cons (pe_var h1 h2 h3 h4) pa_nil)).imp fun σ H Q q => sem_olen q) (fun _ => rfl)
      | _ => exact nomatch h
    | _ => exact nomatch h
  | .peek a, X, sc, fc, W, o, e, h => by
    have h : (pkB e && ckE cf sc fc a e) = true := h
    rw [Bool.and_eq_true] at h
    obtain ⟨pa, ta⟩ := okE a o e h.2
    exact ⟨pa.imp fun σ H Q q => sem_peek q, ta.imp fun σ H Q q => sem_peekT q⟩
  | .olst i, X, sc, fc, W, o, e, h => by
    cases e with
    | Call f args kws pos =>
      cases f with
      | Name y p =>
        match args, kws, h with
        | [.Name x p2], [], h =>
          have h : ((y == ("list" : Str) && glB sc y) && nmB cf sc i x) = true := h
          simp only [Bool.and_eq_true] at h
          obtain ⟨h1, h2, h3, h4⟩ := o.nm h.2
          have ey : y = ("list" : Str) := by simpa using h.1.1
          subst ey
          have hb : bootBuiltins "list" = some (.type "list") := bi_boot .list
          exact plT ((pe_callTy call_list_of (o.gl h.1.2) (o.blt (bi_mem .list)) hb (pa_cons (pe_var h1 h2 h3 h4) pa_nil)).imp fun σ H Q q => sem_olst q) (fun _ => rfl)
      | _ => exact nomatch h
    | _ => exact nomatch h
  | .gl k, X, sc, fc, W, o, e, h => by
    cases e with
    | Name x pos =>
      have h : (atB cf.gx k x && gnB sc x) = true := h
      unfold gnB at h
      simp only [Bool.and_eq_true] at h
      refine ⟨⟨fun pins s σ H Q I q => ?_⟩, ⟨fun pins s σ H Q I q => ?_⟩⟩
      · cases hd : G[k]? with
        | none => exact (sem_gl0 hd q).elim
        | some d =>
          obtain ⟨v, u, g1, g2, g3⟩ := o.m.glb k x d (atB_e h.1) hd
          exact (pe_glob (o.gl h.2.1) g1 g2 (okN_d h.2.2).1).run pins s σ H Q I (sem_gl hd q g3)
      · cases hd : G[k]? with
        | none => exact (sem_gl0 hd (sem_truth q)).elim
        | some d =>
          obtain ⟨v, u, g1, g2, g3⟩ := o.m.glb k x d (atB_e h.1) hd
          exact (pt_truth (pe_glob (pos := pos) (o.gl h.2.1) g1 g2 (okN_d h.2.2).1) (fun _ => rfl)).run pins s σ H Q I (sem_gl hd (sem_truth q) g3)
    | _ => exact nomatch h
  | .bin op a b, X, sc, fc, W, o, e, h => by
    cases e with
    | BinOp l p r pos =>
      have h : ((opB op == p && ckE cf sc fc a l) && ckE cf sc fc b r) = true := h
      simp only [Bool.and_eq_true] at h
      have ep : opB op = p := by simpa using h.1.1
      subst ep
      exact plT ((pe_op (bin_ok op) (okE a o l h.1.2).1 (okE b o r h.2).1).imp fun σ H Q q => sem_bin q) (fun _ => rfl)
    | _ => exact nomatch h
  | .neg a, X, sc, fc, W, o, e, h => by
    cases e with
    | UnaryOp p l pos =>
      cases p with
      | USub => exact plT ((pe_un un_neg (okE a o l h).1).imp fun σ H Q q => sem_neg q) (fun _ => rfl)
      | _ => exact nomatch h
    | _ => exact nomatch h
  | .no a, X, sc, fc, W, o, e, h => by
    cases e with
    | UnaryOp p l pos =>
      cases p with
      | Not => exact ⟨(pe_notT (okE a o l h).1).imp fun σ H Q q => sem_no q, (pt_not (okE a o l h).2).imp fun σ H Q q => sem_noT q⟩
      | _ => exact nomatch h
    | _ => exact nomatch h
  | .cmp op a b, X, sc, fc, W, o, e, h => by
    cases e with
    | Compare l ops rs pos =>
      match ops, rs, h with
      | [p], [r], h =>
        have h : (((opC op == p && !behindInMarks p r) && ckE cf sc fc a l) && ckE cf sc fc b r) = true := h
        simp only [Bool.and_eq_true, Bool.not_eq_true'] at h
        have ep : opC op = p := by simpa using h.1.1.1
        subst ep
        exact ⟨(pe_cmpR (cmp_ok o.m.units op) (okE a o l h.1.2).1 (okE b o r h.2).1 h.1.1.2).imp fun σ H Q q => sem_cmp q, (pt_cmpR (cmp_ok o.m.units op) (okE a o l h.1.2).1 (okE b o r h.2).1 h.1.1.2).imp fun σ H Q q => sem_cmpT q⟩
    | _ => exact nomatch h
  | .chn op op2 a b c, X, sc, fc, W, o, e, h => by
    cases e with
    | Compare l ops rs pos =>
      match ops, rs, h with
      | [p, p2], [r, t], h =>
        have h : (((((opC op == p && opC op2 == p2) && !lastMarks [p, p2] [r, t]) && ckE cf sc fc a l) && ckE cf sc fc b r) && ckE cf sc fc c t) = true := h
        simp only [Bool.and_eq_true, Bool.not_eq_true'] at h
        obtain ⟨⟨⟨⟨⟨k1, k2⟩, k3⟩, k4⟩, k5⟩, k6⟩ := h
        have ep : opC op = p := by simpa using k1
        have ep2 : opC op2 = p2 := by simpa using k2
        subst ep ep2
        exact ⟨(pe_chain (cmp_ok o.m.units op) (cmp_ok o.m.units op2) (okE a o l k4).1 (okE b o r k5).1 (okE c o t k6).1 k3).imp fun σ H Q q => sem_chn q,
          (pt_chain (cmp_ok o.m.units op) (cmp_ok o.m.units op2) (okE a o l k4).1 (okE b o r k5).1 (okE c o t k6).1 k3).imp fun σ H Q q => sem_chnT q⟩
    | _ => exact nomatch h
  | .and a b, X, sc, fc, W, o, e, h => by
    cases e with
    | BoolOp op es pos =>
      cases op with
      | Or => exact nomatch h
      | And =>
        match es, h with
        | [l, r], h =>
          have h : (ckE cf sc fc a l && ckE cf sc fc b r) = true := h
          rw [Bool.and_eq_true] at h
          obtain ⟨pa, ta⟩ := okE a o l h.1
          obtain ⟨pb, tb⟩ := okE b o r h.2
          exact ⟨(pe_andT pa (pe_one pb)).imp fun σ H Q q => sem_and q, (pw_and ta (pw_and1 tb)).pt.imp fun σ H Q q => sem_andT q⟩
        | l :: r :: u :: us, h =>
          have h : (ckE cf sc fc a l && ckE cf sc fc b (.BoolOp .And (r :: u :: us) pos)) = true := h
          rw [Bool.and_eq_true] at h
          obtain ⟨pa, ta⟩ := okE a o l h.1
          obtain ⟨pb, tb⟩ := okE b o _ h.2
          exact ⟨(pe_andT pa pb).imp fun σ H Q q => sem_and q, (pw_and ta (pt_pw tb)).pt.imp fun σ H Q q => sem_andT q⟩
        | [l], h =>
          have h : (ckE cf sc fc a l && false) = true := h
          rw [Bool.and_eq_true] at h
          exact nomatch h.2
    | _ => exact nomatch h
  | .or a b, X, sc, fc, W, o, e, h => by
    cases e with
    | BoolOp op es pos =>
      cases op with
      | And => exact nomatch h
      | Or =>
        match es, h with
        | [l, r], h =>
          have h : (ckE cf sc fc a l && ckE cf sc fc b r) = true := h
          rw [Bool.and_eq_true] at h
          obtain ⟨pa, ta⟩ := okE a o l h.1
          obtain ⟨pb, tb⟩ := okE b o r h.2
          exact ⟨(pe_orT pa (pe_one pb)).imp fun σ H Q q => sem_or q, (pw_or ta (pw_or1 tb)).pt.imp fun σ H Q q => sem_orT q⟩
        | l :: r :: u :: us, h =>
          have h : (ckE cf sc fc a l && ckE cf sc fc b (.BoolOp .Or (r :: u :: us) pos)) = true := h
          rw [Bool.and_eq_true] at h
          obtain ⟨pa, ta⟩ := okE a o l h.1
          obtain ⟨pb, tb⟩ := okE b o _ h.2
          exact ⟨(pe_orT pa pb).imp fun σ H Q q => sem_or q, (pw_or ta (pt_pw tb)).pt.imp fun σ H Q q => sem_orT q⟩
        | [l], h =>
          have h : (ckE cf sc fc a l && false) = true := h
          rw [Bool.and_eq_true] at h
          exact nomatch h.2
    | _ => exact nomatch h
  | .ife c a b, X, sc, fc, W, o, e, h => by
    cases e with
    | IfExp t x y pos =>
      have h : ((ckE cf sc fc c t && ckE cf sc fc a x) && ckE cf sc fc b y) = true := h
      simp only [Bool.and_eq_true] at h
      obtain ⟨pc, tc⟩ := okE c o t h.1.1
      obtain ⟨pa, ta⟩ := okE a o x h.1.2
      obtain ⟨pb, tb⟩ := okE b o y h.2
      exact ⟨(pe_ifExp tc pa pb).imp fun σ H Q q => sem_ife q, (pt_ife tc ta tb).imp fun σ H Q q => sem_ifeT q⟩
    | _ => exact nomatch h
  | .tup es, X, sc, fc, W, o, e, h => by
    cases e with
    | Tuple ls k pos => exact plT ((pe_tup (okEs es o ls h)).imp fun σ H Q q => sem_tup q) (fun _ => rfl)
    | _ => exact nomatch h
  | .lst es, X, sc, fc, W, o, e, h => by
    cases e with
    | List ls pos => exact plT ((pe_lst (okEs es o ls h)).imp fun σ H Q q => sem_lst q) (fun _ => rfl)
    | _ => exact nomatch h
  | .ix a b, X, sc, fc, W, o, e, h => by
    cases e with
    | Subscript l r pos =>
      have h : ((plainB r && ckE cf sc fc a l) && ckE cf sc fc b r) = true := h
      simp only [Bool.and_eq_true] at h
      exact plT ((pe_ix (ix_list.or ix_tup) (okE a o l h.1.2).1 (okE b o r h.2).1 (plainOf h.1.1)).imp fun σ H Q q => sem_ix q) (fun _ => rfl)
    | _ => exact nomatch h
  | .sl a lo hi, X, sc, fc, W, o, e, h => by
    cases e with
    | Subscript l r pos =>
      cases r with
      | Slice x y z p2 =>
        cases z with
        | some _ => exact nomatch h
        | none =>
          have h : ((ckE cf sc fc a l && ckOp cf sc fc lo x) && ckOp cf sc fc hi y) = true := h
          simp only [Bool.and_eq_true] at h
          exact plT ((pe_slice (sl_list.or sl_tupA) (okE a o l h.1.1).1 (okOp lo o x h.1.2).1 (okOp hi o y h.2).1).imp fun σ H Q q => sem_sl q) (fun _ => rfl)
      | _ => exact nomatch h
    | _ => exact nomatch h
  | .rsl a, X, sc, fc, W, o, e, h => by
    cases e with
    | Subscript l r pos =>
      match r, h with
      | .Slice none none (some (.UnaryOp .USub (.Constant (.int 1) k p1) p2)) p3, h =>
        exact plT ((pe_revA (okE a o l h).1).imp fun σ H Q q => sem_rsl q) (fun _ => rfl)
    | _ => exact nomatch h
  | .isx a c, X, sc, fc, W, o, e, h => by
    cases e with
    | Call y args kws pos =>
      match y, args, kws, h with
      | .Name x p, [e, .Name y py], [], h =>
        have h : ((((((x == ("isinstance" : Str) && glB sc x) && y == c) && gnB sc y) && cf.cx.contains c) && argB e) && ckE cf sc fc a e) = true := h
        unfold gnB at h
        simp only [Bool.and_eq_true] at h
        obtain ⟨⟨⟨⟨⟨⟨h1, h2⟩, h3⟩, h4⟩, h5⟩, h6⟩, h7⟩ := h
        have ex : x = ("isinstance" : Str) := by simpa using h1
        have ey : y = c := by simpa using h3
        subst ex ey
        have hst := starOf (es := [.Name y py]) (env := X.env) h6
        have hm := o.blt (bi_mem (.isi .int))
        refine plT ?_ (fun _ => rfl)
        rcases o.m.cxs y (by simpa using h5) with ⟨e1, e2⟩ | ⟨C, e1, e2⟩
        · subst e1
          exact (pe_callB call_isX (o.gl h2) hm (bi_boot (.isi .int)) (pa_cons (okE a o e h7).1 (pa_cons (pe_bltn (v := .ty "ValueError") (o.gl h4.1) e2 (u := .type "ValueError") (by decide +kernel) rfl (by decide +kernel) (by decide +kernel)) pa_nil) hst) (bi_nm (.isi .int)).2 (bi_nm (.isi .int)).1 hst rfl).imp fun σ H Q q => sem_isx (.ty _) o.m.exf o.m.xof (.inl ⟨rfl, rfl⟩) q
        · exact (pe_callB call_isX (o.gl h2) hm (bi_boot (.isi .int)) (pa_cons (okE a o e h7).1 (pa_cons (pe_glob (o.gl h4.1) e1 (show RelV (.ref C) (.ref C) from rfl) (okN_d h4.2).1) pa_nil) hst) (bi_nm (.isi .int)).2 (bi_nm (.isi .int)).1 hst rfl).imp fun σ H Q q => sem_isx (.own C) o.m.exf o.m.xof (.inr ⟨C, rfl, e1, e2⟩) q
    | _ => exact nomatch h
  | .bi f es, X, sc, fc, W, o, e, h => by
    cases e with
    | Call y args kws pos =>
      cases y with
      | Name x p =>
        cases kws with
        | cons _ _ => cases args <;> exact nomatch h
        | nil =>
          cases args with
          | nil => exact nomatch h
          | cons e ls =>
            have h : (((x == biName f && glB sc x) && ckIsi sc f ls) && ckEs cf sc fc es (if isIsi f = true then [e] else e :: ls)) = true := h
            simp only [Bool.and_eq_true] at h
            have ex : x = biName f := by simpa using h.1.1.1
            subst ex
            have hb := bi_boot f
            have hg := o.gl h.1.1.2
            have hm := o.blt (bi_mem f)
            obtain ⟨n1, n2⟩ := bi_nm f
            have gen : (∀ t, f ≠ .isi t) → ckEs cf sc fc es (e :: ls) = true → PE X (.Call (.Name (biName f) p) (e :: ls) [] pos) (tE X.K xo X.mg G Γ W (.bi f es)) := fun hf hc => by
              have ok := okEs es o (e :: ls) hc
              have bo := bi_ok (xo := xo) (mg := X.mg) (W := W) o.calm f hf
              rcases biVal_cases f hf with ⟨id, ei⟩ | ⟨T, ei⟩
              · rw [ei] at hb bo
                exact (pe_callB bo hg hm hb ok n2 n1 (ckEs_star hc) (ckEs_tl hc)).imp fun σ H Q q => sem_bi q
              · rw [ei] at hb bo
                exact (pe_callTy bo hg hm hb ok n2 n1 (ckEs_star hc) (ckEs_tl hc)).imp fun σ H Q q => sem_bi q
            refine plT ?_ (fun _ => rfl)
            have h1 := h.1.2
            have h2 := h.2
            cases f with
            | isi t =>
              match es, ls, h1, h2 with
              | .cons a .nil, [.Name y py], h1, h2 =>
                have h1 : (y == Str.ofString (tyStr t) && glB sc y) = true := h1
                have h3 : (argB e && ckE cf sc fc a e && true) = true := h2
                rw [Bool.and_eq_true] at h1
                rw [Bool.and_eq_true, Bool.and_eq_true] at h3
                have ey : y = Str.ofString (tyStr t) := by simpa using h1.1
                subst ey
                obtain ⟨m1, m2⟩ := ty_nm t
                have hb2 := ty_boot t
                have ha := okE a o e h3.1.2
                have hst := starOf (es := [.Name (Str.ofString (tyStr t)) py]) (env := X.env) h3.1.1
                exact (pe_callB (isi_ok (xo := xo) t) hg hm hb (pa_cons ha.1 (pa_cons (pe_bltn (v := .ty (tyStr t)) (o.gl h1.2) (o.blt (ty_mem t)) hb2 rfl m2 m1) pa_nil) hst) n2 n1 hst rfl).imp fun σ H Q q => sem_isi q
              | .nil, [.Name y py], h1, h2 => exact nomatch h2
              | .cons a (.cons _ _), [.Name y py], h1, h2 =>
                have h2 : (argB e && ckE cf sc fc a e && false) = true := h2
                rw [Bool.and_eq_true] at h2
                exact nomatch h2.2
            | _ => exact gen (fun t z => nomatch z) h2
      | _ => exact nomatch h
    | _ => exact nomatch h
  | .lit_ it, X, sc, fc, W, o, e, h => by
    cases e with
    | Call y args kws pos =>
      match y, args, kws, h with
      | .Name f p, [g], [], h =>
        have h : (((f == ("list" : Str) && glB sc f) && litB it) && ckIt cf sc fc it true g) = true := h
        simp only [Bool.and_eq_true] at h
        obtain ⟨⟨⟨k1, k2⟩, k3⟩, k4⟩ := h
        have ef : f = ("list" : Str) := by simpa using k1
        subst ef
        have hml : X.mg "list" = none := o.blt (by decide +kernel)
        cases it with
        | zip st es =>
          cases g with
          | Call y2 args2 kws2 pos2 =>
            cases y2 with
            | Name x p2 =>
              cases args2 with
              | nil => exact nomatch k4
              | cons e ls =>
                have k4 : (((((true && x == ("zip" : Str)) && glB sc x) && kwB st kws2) && len12 ls) && ckEs cf sc fc es (e :: ls)) = true := k4
                simp only [Bool.and_eq_true] at k4
                obtain ⟨⟨⟨⟨⟨_, c2⟩, c3⟩, c4⟩, c5⟩, c6⟩ := k4
                have ex : x = ("zip" : Str) := by simpa using c2
                subst ex
                obtain ⟨j, p1, p3, ek⟩ := kwB_e c4
                subst ek
                have hm : X.mg "zip" = none := o.blt (by decide +kernel)
                have ok := okEs es o (e :: ls) c6
                match st, es, ls, k3, c5, c6, ok with
                | true, .cons a0 (.cons a1 .nil), [e2], _, _, c6, ok => exact plT ((pe_listZ o.calm (o.gl k2) hml (o.gl c3) hm ok (ckEs_star c6) (ckEs_tl c6)).imp fun σ H Q q => sem_lz rfl q) (fun _ => rfl)
                | true, .cons a0 (.cons a1 .nil), [e2, e3], _, _, c6, _ => exact absurd c6 (by simp [ckEs])
            | _ => exact nomatch k4
          | _ => exact nomatch k4
        | rng es =>
          cases g with
          | Call y2 args2 kws2 pos2 =>
            cases y2 with
            | Name x p2 =>
              cases kws2 with
              | cons _ _ => cases args2 <;> exact nomatch k4
              | nil =>
                cases args2 with
                | nil => exact nomatch k4
                | cons e ls =>
                  have k4 : (((x == ("range" : Str) && glB sc x) && len01 ls) && ckEs cf sc fc es (e :: ls)) = true := k4
                  simp only [Bool.and_eq_true] at k4
                  obtain ⟨⟨⟨c2, c3⟩, c5⟩, c6⟩ := k4
                  have ex : x = ("range" : Str) := by simpa using c2
                  subst ex
                  have hm : X.mg "range" = none := o.blt (by decide +kernel)
                  match es, ls, k3, c5, c6 with
                  | .cons a .nil, [], _, _, c6 =>
                    have c7 : ((argB e && ckE cf sc fc a e) && true) = true := c6
                    simp only [Bool.and_eq_true] at c7
                    exact plT ((pe_listRg o.calm (o.gl k2) hml (prg_1 (o.gl c3) hm (okE a o e c7.1.2).1 (starOf c7.1.1))).imp fun σ H Q q => sem_lr q) (fun _ => rfl)
                  | .cons a .nil, [_], _, _, c6 => exact absurd c6 (by simp [ckEs])
            | _ => exact nomatch k4
          | _ => exact nomatch k4
        | _ => exact nomatch k3
    | _ => exact nomatch h
  | .call k es, X, sc, fc, W, o, e, h => by
    cases e with
    | Call y args kws pos =>
      cases y with
      | Name x p =>
        cases kws with
        | cons _ _ => cases args <;> exact nomatch h
        | nil =>
          cases args with
          | nil => exact nomatch h
          | cons e ls =>
            have h : (((atB cf.fx k x && gnB sc x) && ckEs cf sc fc es (e :: ls)) && (kwOf cf k).isNone) = true := h
            unfold gnB at h
            simp only [Bool.and_eq_true] at h
            obtain ⟨h, hk0⟩ := h
            have ok := okEs es o (e :: ls) h.2
            have run : PE X (.Call (.Name x p) (e :: ls) [] pos) (tE X.K xo X.mg G Γ W (.call k es)) := by
              obtain ⟨f, hf, n, hcal, g2⟩ := o.m.fun_ k x (atB_e h.1.1)
              rw [Option.isNone_iff_eq_none.mp hk0] at hcal
              obtain ⟨a, fd, ps, dvs, ds, sp0, g1, g3, g4, g5, g6, g7⟩ := hcal
              exact (pe_callSD g1 g2 (o.gl h.1.2.1) g3 g4 g5 g6 (fun σ => passAt o.tk σ) ok (okN_d h.1.2.2).1 (ckEs_star h.2) (ckEs_tl h.2)).imp fun σ H Q q => callee_es g7 (sem_call hf q)
            exact plT run (fun _ => rfl)
      | _ => exact nomatch h
    | _ => exact nomatch h
  | .callo k i es, X, sc, fc, W, o, e, h => by
    cases e with
    | Call y args kws pos =>
      match y, args, kws, h with
      | .Name x p, .Name z pz :: ls, [], h =>
        have h : ((((atB cf.fx k x && gnB sc x) && nmB cf sc i z) && ckEs cf sc fc es ls) && (kwOf cf k).isNone) = true := h
        unfold gnB at h
        simp only [Bool.and_eq_true] at h
        obtain ⟨h, hk0⟩ := h
        obtain ⟨h1, h2, h3, h4⟩ := o.nm h.1.2
        have ok := okEs es o ls h.2
        refine plT ?_ (fun _ => rfl)
        obtain ⟨f, hf, n, hcal, g2⟩ := o.m.fun_ k x (atB_e h.1.1.1)
        rw [Option.isNone_iff_eq_none.mp hk0] at hcal
        obtain ⟨a, fd, ps, dvs, ds, sp0, g1, g3, g4, g5, g6, g7⟩ := hcal
        exact (pe_callSD g1 g2 (o.gl h.1.1.2.1) g3 g4 g5 g6 (fun σ => passAt o.tk σ) (pa_cons (pe_var h1 h2 h3 h4) ok) (okN_d h.1.1.2.2).1 rfl (ckEs_any h.2)).imp fun σ H Q q => callee_own g7 (sem_callo hf q)
    | _ => exact nomatch h
  | .callk k es a, X, sc, fc, W, o, e, h => by
    cases e with
    | Call y args kws pos =>
      match y, args, kws, h with
      | .Name x p, e :: ls, [⟨some n, ea, kp⟩], h =>
        have h : ((((atB cf.fx k x && gnB sc x) && kwOf cf k == some n) && ckEs cf sc fc es (e :: ls)) && ckE cf sc fc a ea) = true := h
        unfold gnB at h
        simp only [Bool.and_eq_true] at h
        obtain ⟨⟨⟨⟨h1, h2⟩, h3⟩, h4⟩, h5⟩ := h
        have ok := okEs es o (e :: ls) h4
        have oka := (okE a o ea h5).1
        refine plT ?_ (fun _ => rfl)
        obtain ⟨f, hf, m, hcal, g2⟩ := o.m.fun_ k x (atB_e h1)
        rw [show kwOf cf k = some n from by simpa using h3] at hcal
        obtain ⟨a0, fd, ps, np, g, sp0, g1, g3, g4, g5, g6, g7⟩ := hcal
        exact (pe_callND g1 g2 (o.gl h2.1) g3 g4 g5 (fun σ => passAt o.tk σ) ok (pk_cons oka pk_nil) rfl rfl (okN_d h2.2).1 (ckEs_star h4) (by
          rw [show backTo pos (starEach (e :: ls) X.env) = (false, eval e X.env) :: backTo pos (starEach ls X.env) by rw [ckEs_star h4]; rfl]
          show ((false || (backTo pos (starEach ls X.env)).any (·.1)) || false) = false
          rw [ckEs_tl h4]
          rfl)).imp fun σ H Q q => callee_k g7 (sem_callk hf g6 q)
    | _ => exact nomatch h
  | .comp x vs g it c, X, sc, fc, W, o, e, h => by
    cases e with
    | ListComp elt gens scope pos =>
      match gens, h with
      | [⟨tg, iter, ifs, 0⟩], h =>
        have h : (blkC cf.N sc scope (ownOf cf.N vs) && (ownOf cf.N vs).map (·.2) == vs && (tgS g).all (fun i => vs.contains i) && ckTg cf (relS scope sc) (some scope) g tg && ckIt cf sc fc it (isTup tg) iter &&
          ckE cf (relS scope sc) (some scope) x elt && ckOp cf (relS scope sc) (some scope) c ifs.head? && len01 ifs) = true := h
        simp only [Bool.and_eq_true] at h
        obtain ⟨⟨⟨⟨⟨⟨⟨k1, k2⟩, k3⟩, k4⟩, k5⟩, k6⟩, k7⟩, k8⟩ := h
        have e2 : (ownOf cf.N vs).map (·.2) = vs := by simpa using k2
        have hg : ∀ i ∈ tgS g, i ∈ vs := fun i hi => by
          have := List.all_eq_true.mp k3 i hi
          simpa using this
        have hi := okIt it o tg iter k5
        have hb : BlkOk X.N X.env.scope scope (ownOf cf.N vs) := by
          rw [o.hN, o.hsc]
          exact blkOk_by k1
        refine plT ?_ (fun _ => rfl)
        have main := pe_lc (pos := pos) (g := gT X.K xo g) (tt := tOT X.K xo X.mg G Γ W0 c) (te := tE X.K xo X.mg G Γ W0 x) o.calm (by rw [o.hN]; exact o.nd) hi.1 hb (fun s H C cl fp => pg_ok (o.blk scope s H C cl fp) g tg k4) (fun s H C cl fp => okTs c (o.blk scope s H C cl fp) ifs k7 k8) (fun s H C cl fp => (okE x (o.blk scope s H C cl fp) elt k6).1) hi.2
        refine main.imp fun σ H Q q => ?_
        rw [e2]
        exact comp_ok hg q
    | _ => exact nomatch h
theorem okEs : ∀ (as : Exs) {X : Cx} {sc : Scope} {fc : Option Scope} {W : WX} (o : XOk X cf sc fc G Γ xo W) (es : List Expr), ckEs cf sc fc as es = true → PA X es (tEs X.K xo X.mg G Γ W as)
  | .nil, X, sc, fc, W, o, [], _ => pa_nil.imp fun σ H Q q => sem_nil q
  | .cons a as, X, sc, fc, W, o, e :: es, h => by
    have h' : (argB e && ckE cf sc fc a e && ckEs cf sc fc as es) = true := h
    simp only [Bool.and_eq_true] at h'
    exact (pa_cons (okE a o e h'.1.2).1 (okEs as o es h'.2) (starOf h'.1.1)).imp fun σ H Q q => sem_cons q
  | .nil, _, _, _, _, _, _ :: _, h => nomatch h
  | .cons _ _, _, _, _, _, _, [], h => nomatch h
theorem okOp : ∀ (p : Op) {X : Cx} {sc : Scope} {fc : Option Scope} {W : WX} (o : XOk X cf sc fc G Γ xo W) (e : Option Expr), ckOp cf sc fc p e = true → PO X e (tO X.K xo X.mg G Γ W p) ∧ ∀ t, e = some t → PTs X [t] (tOT X.K xo X.mg G Γ W p)
  | .non, X, sc, fc, W, o, none, _ => ⟨po_none.imp fun σ H Q q => sem_non q, fun _ z => nomatch z⟩
  | .som a, X, sc, fc, W, o, some e, h => by
    obtain ⟨p, t⟩ := okE a o e h
    refine ⟨(po_some p).imp fun σ H Q q => sem_op q, fun u z => ?_⟩
    have z' := Option.some.inj z
    subst z'
    exact pts_one t
  | .non, _, _, _, _, _, some _, h => nomatch h
  | .som _, _, _, _, _, _, none, h => nomatch h
theorem okTs : ∀ (c : Op) {X : Cx} {sc : Scope} {fc : Option Scope} {W : WX} (o : XOk X cf sc fc G Γ xo W) (ifs : List Expr), ckOp cf sc fc c ifs.head? = true → len01 ifs = true → PTs X ifs (tOT X.K xo X.mg G Γ W c)
  | .non, X, sc, fc, W, o, [], _, _ => pts_nil.imp fun σ H Q q => sem_yes q
  | .som a, X, sc, fc, W, o, [t], h, _ => pts_one (okE a o t h).2
  | .som _, _, _, _, _, _, [], h, _ => nomatch h
  | .non, _, _, _, _, _, _ :: _, h, _ => nomatch h
  | .som _, _, _, _, _, _, _ :: _ :: _, _, h => nomatch h
theorem okIt : ∀ (it : It) {X : Cx} {sc : Scope} {fc : Option Scope} {W : WX} (o : XOk X cf sc fc G Γ xo W) (tg e : Expr), ckIt cf sc fc it (isTup tg) e = true → PI X tg e (tI X.K xo X.mg G Γ W it) ∧ ∀ x, foldedSetIterable e X.env x = pure x
  | .seq a, X, sc, fc, W, o, tg, e, h => by
    have h : (argB e && ckE cf sc fc a e) = true := h
    rw [Bool.and_eq_true] at h
    exact ⟨(pi_seq (okE a o e h.2).1).imp fun σ H Q q => sem_seq q, foldOf h.1⟩
  | .zip st es, X, sc, fc, W, o, tg, e, h => by
    cases e with
    | Call y args kws pos =>
      cases y with
      | Name x p =>
        cases args with
        | nil => exact nomatch h
        | cons e ls =>
          have h : ((((isTup tg && x == ("zip" : Str) && glB sc x) && kwB st kws) && len12 ls) && ckEs cf sc fc es (e :: ls)) = true := h
          simp only [Bool.and_eq_true] at h
          obtain ⟨⟨⟨⟨⟨k1, k2⟩, k3⟩, k4⟩, k5⟩, k6⟩ := h
          have ex : x = ("zip" : Str) := by simpa using k2
          subst ex
          obtain ⟨j, p1, p2, ek⟩ := kwB_e k4
          subst ek
          have hm : X.mg "zip" = none := o.blt (by decide +kernel)
          have ok := okEs es o (e :: ls) k6
          refine ⟨?_, fun _ => rfl⟩
          cases tg with
          | Tuple elts kk tpos =>
            match ls, k5, es, k6, ok with
            | [e2], _, .cons a0 (.cons a1 .nil), k6, ok => exact (pi_z2 (o.gl k3) hm ok (ckEs_star k6) (ckEs_tl k6)).imp fun σ H Q q => sem_z2 rfl q
            | [e2, e3], _, .cons a0 (.cons a1 (.cons a2 .nil)), k6, ok => exact (pi_z3 (o.gl k3) hm ok (ckEs_star k6) (ckEs_tl k6)).imp fun σ H Q q => sem_z3 rfl q
            | [e2], _, .cons a0 .nil, k6, ok => exact absurd k6 (by simp [ckEs])
            | [e2], _, .cons a0 (.cons a1 (.cons _ _)), k6, ok => exact absurd k6 (by simp [ckEs])
            | [e2, e3], _, .cons a0 .nil, k6, ok => exact absurd k6 (by simp [ckEs])
            | [e2, e3], _, .cons a0 (.cons a1 .nil), k6, ok => exact absurd k6 (by simp [ckEs])
            | [e2, e3], _, .cons a0 (.cons a1 (.cons _ (.cons _ _))), k6, ok => exact absurd k6 (by simp [ckEs])
          | _ => exact nomatch k1
      | _ => exact nomatch h
    | _ => exact nomatch h
  | .enum it, X, sc, fc, W, o, tg, e, h => by
    cases it with
    | seq a =>
      cases e with
      | Call y args kws pos =>
        match y, args, kws, h with
        | .Name x p, [e], [], h =>
          have h : ((((isTup tg && x == ("enumerate" : Str)) && glB sc x) && argB e) && ckE cf sc fc a e) = true := h
          simp only [Bool.and_eq_true] at h
          obtain ⟨⟨⟨⟨k1, k2⟩, k3⟩, k4⟩, k5⟩ := h
          have ex : x = ("enumerate" : Str) := by simpa using k2
          subst ex
          refine ⟨?_, fun _ => rfl⟩
          cases tg with
          | Tuple elts kk tpos => exact (pi_en (o.gl k3) (o.blt (by decide +kernel)) (pa_cons (okE a o e k5).1 pa_nil (starOf k4)) (starOf k4)).imp fun σ H Q q => sem_en q
          | _ => exact nomatch k1
      | _ => exact nomatch h
    | _ => cases e <;> exact nomatch h
  | .rng es, X, sc, fc, W, o, tg, e, h => by
    cases e with
    | Call y args kws pos =>
      cases y with
      | Name x p =>
        cases kws with
        | cons _ _ => cases args <;> exact nomatch h
        | nil =>
          cases args with
          | nil => exact nomatch h
          | cons e ls =>
            have h : (((x == ("range" : Str) && glB sc x) && len01 ls) && ckEs cf sc fc es (e :: ls)) = true := h
            simp only [Bool.and_eq_true] at h
            obtain ⟨⟨⟨k2, k3⟩, k5⟩, k6⟩ := h
            have ex : x = ("range" : Str) := by simpa using k2
            subst ex
            have hm : X.mg "range" = none := o.blt (by decide +kernel)
            have ok := okEs es o (e :: ls) k6
            refine ⟨?_, fun _ => rfl⟩
            match ls, k5, es, k6, ok with
            | [], _, .cons a0 .nil, k6, ok => exact (pi_range1 (o.gl k3) hm ok (ckEs_star k6)).imp fun σ H Q q => sem_rng1 rfl q
            | [e2], _, .cons a0 (.cons a1 .nil), k6, ok =>
              have hs := ckEs_star (env := X.env) k6
              have k62 : ckEs cf sc fc (.cons a1 .nil) [e2] = true := by
                have k6' : ((argB e && ckE cf sc fc a0 e) && ckEs cf sc fc (.cons a1 .nil) [e2]) = true := k6
                rw [Bool.and_eq_true] at k6'
                exact k6'.2
              have hs2 := ckEs_star (env := X.env) k62
              exact (pi_range2 (o.gl k3) hm ok (by rw [hs, hs2]; rfl) hs2).imp fun σ H Q q => sem_rng2 rfl q
            | [], _, .cons a0 (.cons _ _), k6, ok => exact absurd k6 (by simp [ckEs])
            | [e2], _, .cons a0 .nil, k6, ok => exact absurd k6 (by simp [ckEs])
            | [e2], _, .cons a0 (.cons a1 (.cons _ _)), k6, ok => exact absurd k6 (by simp [ckEs])
      | _ => exact nomatch h
    | _ => exact nomatch h
  | .rev a, X, sc, fc, W, o, tg, e, h => by
    cases e with
    | Call y args kws pos =>
      match y, args, kws, h with
      | .Name x p, [e], [], h =>
        have h : (((x == ("reversed" : Str) && glB sc x) && argB e) && ckE cf sc fc a e) = true := h
        simp only [Bool.and_eq_true] at h
        obtain ⟨⟨⟨k2, k3⟩, k4⟩, k5⟩ := h
        have ex : x = ("reversed" : Str) := by simpa using k2
        subst ex
        exact ⟨(RT.pi_revA (o.gl k3) (o.blt (by decide +kernel)) (okE a o e k5).1 (starOf k4)).imp fun σ H Q q => sem_rev q, fun _ => rfl⟩
    | _ => exact nomatch h
end
end
end DL


set_option Elab.async false
set_option linter.all false
set_option maxRecDepth 100000
set_option maxHeartbeats 8000000
/-! DL18: statements. -/
namespace DL
open PySem PySem.Spec PyProof.Rows L2

section
variable (K : PySem.W.Frag) (xo : XO) (mg : Str → Option Value) (G : List D) (Γ : List Fn) (W : WX)
/-- what is wanted behind a statement -/
def PostS (B : FB) (F : Hp) (r : RS) (Q : Ends) : Prop := match r with
  | .nx e => ∀ σ' H' F', Rel K xo B F' σ' H' e → Same F F' → Q.nx σ' H'
  | .bk e => ∀ σ' H' F', Rel K xo B F' σ' H' e → Same F F' → Q.bk σ' H'
  | .ct e => ∀ σ' H' F', Rel K xo B F' σ' H' e → Same F F' → Q.ct σ' H'
  | .rt (.d d) e => ∀ v σ' H' F', Rel K xo B F' σ' H' e → Same F F' → Den K xo F' v d → Q.rt v H'
  | .rt (.fr ds) e => ∀ p vs σ' H' F', Rel K xo B F' σ' H' e → Same F F' → H' p = some (.lst vs) → F' p = none → DenAll K xo F' vs ds → B.mine p →
      (∀ (i : Nat) pp es, e[i]? = some (.own pp es) → σ'[i]? ≠ some (some (.ref p))) → Q.rt (.ref p) H'
  | .exn c ps e => ∀ cls dx σ' H' F', Rel K xo B F' σ' H' e → Same F F' → ExW K xo mg c ps cls dx H' F' → W cls dx σ' H'
  | .bad => False
def tS (s : Sx) : TS := fun Q σ H => ∃ B F e, Rel K xo B F σ H e ∧ PostS K xo mg W B F (evS G Γ s e) Q
def tSs (ss : Sxs) : TS := fun Q σ H => ∃ B F e, Rel K xo B F σ H e ∧ PostS K xo mg W B F (evSs G Γ ss e) Q
end

section
variable {K : PySem.W.Frag} {xo : XO} {mg : Str → Option Value} {G : List D} {Γ : List Fn} {W : WX} {B : FB} {σ : L2.St} {F F1 H : Hp} {e : Env} {Q : Ends} {α β : Type}
theorem PostS.sub {r : RS} (h : PostS K xo mg W B F r Q) (s : Same F F1) : PostS K xo mg W B F1 r Q := by
  cases r with
  | bad => exact h
  | nx e => exact fun σ' H' F' r1 s1 => h σ' H' F' r1 (s.trans s1)
  | bk e => exact fun σ' H' F' r1 s1 => h σ' H' F' r1 (s.trans s1)
  | ct e => exact fun σ' H' F' r1 s1 => h σ' H' F' r1 (s.trans s1)
  | exn c ps e => exact fun cls dx σ' H' F' r1 s1 x => h cls dx σ' H' F' r1 (s.trans s1) x
  | rt v e =>
    cases v with
    | d d => exact fun v σ' H' F' r1 s1 x => h v σ' H' F' r1 (s.trans s1) x
    | fr ds => exact fun p vs σ' H' F' r1 s1 => h p vs σ' H' F' r1 (s.trans s1)
theorem bindS {r : R α} {f : α → Env → RS} (h : PostS K xo mg W B F (r.thn f) Q) : PostX K xo mg W B σ F r fun a e1 F1 _ => PostS K xo mg W B F1 (f a e1) Q := by
  cases r with
  | bad => exact h
  | exn c ps e => exact fun cls dx H' F' r1 s1 x => h cls dx σ H' F' r1 s1 x
  | ok v e => exact fun H' F' r1 s1 => PostS.sub h s1
theorem tE_bindS {a : Ex} {f : DV → Env → RS} {T : V → Hp → Prop} (r : Rel K xo B F σ H e) (h : PostS K xo mg W B F ((evE G Γ a e).thn f) Q) (hf : ∀ x y e, x.fz = y.fz → f x e = f y e)
    (k : ∀ (x : D) e1 v H1 F1, Rel K xo B F1 σ H1 e1 → Same F F1 → Den K xo F1 v x → PostS K xo mg W B F1 (f (.d x) e1) Q → T v H1) : tE K xo mg G Γ W a σ H T := by
  refine ⟨B, F, e, r, ?_⟩
  cases q : evE G Γ a e with
  | bad => rw [q] at h; exact h.elim
  | exn c ps e1 => rw [q] at h; exact fun cls dx H' F' r1 s1 x => h cls dx σ H' F' r1 s1 x
  | ok x e1 =>
    rw [q] at h
    cases x with
    | d x => exact fun v H' F' r1 s1 x1 => k x e1 v H' F' r1 s1 x1 (PostS.sub h s1)
    | fr ds =>
      refine fun p vs H' F' r1 s1 hp hF x1 h0 ho => ?_
      have s2 := s1.trans (same_upd (o := HO.lst vs) hF)
      have h' : PostS K xo mg W B F (f (.d (.list ds)) e1) Q := by
        rw [← hf (.fr ds) (.d (.list ds)) e1 rfl]
        exact h
      exact k (.list ds) e1 (.ref p) H' (upd F' p (.lst vs)) (r1.freeze hF hp h0 ho) s2 (.lst upd_same (x1.mono (same_upd hF))) (PostS.sub h' s2)
theorem PostS.imp {r : RS} {Q' : Ends} (h : PostS K xo mg W B F r Q) (a : ∀ σ H, Q.nx σ H → Q'.nx σ H) (b : ∀ σ H, Q.bk σ H → Q'.bk σ H) (c : ∀ σ H, Q.ct σ H → Q'.ct σ H) (d : ∀ v H, Q.rt v H → Q'.rt v H) : PostS K xo mg W B F r Q' := by
  cases r with
  | bad => exact h
  | nx e => exact fun σ' H' F' r1 s1 => a _ _ (h σ' H' F' r1 s1)
  | bk e => exact fun σ' H' F' r1 s1 => b _ _ (h σ' H' F' r1 s1)
  | ct e => exact fun σ' H' F' r1 s1 => c _ _ (h σ' H' F' r1 s1)
  | exn _ _ e => exact h
  | rt v e =>
    cases v with
    | d x => exact fun v σ' H' F' r1 s1 x => d _ _ (h v σ' H' F' r1 s1 x)
    | fr ds => exact fun p vs σ' H' F' r1 s1 x1 x2 x3 x4 x5 => d _ _ (h p vs σ' H' F' r1 s1 x1 x2 x3 x4 x5)
/-! ### the readings -/
theorem sem_snil (h : tSs K xo mg G Γ W .nil Q σ H) : tNext Q σ H := by
  obtain ⟨B, F, e, r, h⟩ := h
  exact h σ H F r (Same.refl _)
theorem sem_scons {s : Sx} {ss : Sxs} (h : tSs K xo mg G Γ W (.cons s ss) Q σ H) : tSeq (tS K xo mg G Γ W s) (tSs K xo mg G Γ W ss) Q σ H := by
  obtain ⟨B, F, e, r, h⟩ := h
  have h : PostS K xo mg W B F (match evS G Γ s e with
    | .nx e1 => evSs G Γ ss e1
    | r => r) Q := h
  refine ⟨B, F, e, r, ?_⟩
  cases q : evS G Γ s e with
  | nx e1 =>
    rw [q] at h
    exact fun σ' H' F' r1 s1 => ⟨B, F', e1, r1, PostS.sub h s1⟩
  | bk e1 => rw [q] at h; exact h
  | ct e1 => rw [q] at h; exact h
  | rt v e1 =>
    rw [q] at h
    cases v with
    | d d => exact h
    | fr ds => exact h
  | exn c ps e1 => rw [q] at h; exact h
  | bad => rw [q] at h; exact h
theorem sem_asg {t : Tg} {a : Ex} (h : tS K xo mg G Γ W (.asg t a) Q σ H) : tE K xo mg G Γ W a σ H fun x H1 => gT K xo t x σ H1 Q.nx := by
  obtain ⟨B, F, e, r, h⟩ := h
  have h : PostS K xo mg W B F ((evE G Γ a e).thn fun x e1 => match bindT t x.fz e1 with
    | some e2 => .nx e2
    | none => .bad) Q := h
  refine tE_bindS r h (fun x y e q => by rw [q]) fun x e1 v H1 F1 r1 s1 dv hp => ?_
  have hp : PostS K xo mg W B F1 (match bindT t x e1 with
    | some e2 => .nx e2
    | none => .bad) Q := hp
  cases hb : bindT t x e1 with
  | none => rw [hb] at hp; exact hp.elim
  | some e2 =>
    rw [hb] at hp
    exact ⟨B, F1, e1, x, e2, r1, dv, hb, fun σ' r2 _ => hp σ' H1 F1 r2 (Same.refl _)⟩
theorem sem_asgN {i : Nat} {a : Ex} (h : tS K xo mg G Γ W (.asg (.nm i) a) Q σ H) : tE K xo mg G Γ W a σ H fun x H1 => gName i x σ H1 Q.nx := by
  obtain ⟨B, F, e, r, h⟩ := h
  have h : PostS K xo mg W B F ((evE G Γ a e).thn fun x e1 => .nx (e1.set i (.val x.fz))) Q := h
  refine tE_bindS r h (fun x y e q => by rw [q]) fun x e1 v H1 F1 r1 s1 dv hp => ?_
  exact hp _ H1 F1 (r1.setVal dv) (Same.refl _)
theorem sem_own {i : Nat} {a : Ex} (h : tS K xo mg G Γ W (.own i a) Q σ H) : tE K xo mg G Γ W a σ H fun x H1 => gName i x σ H1 Q.nx := by
  obtain ⟨B, F, e, r, h⟩ := h
  have h : PostS K xo mg W B F ((evE G Γ a e).thn fun x e1 => match x with
    | .fr xs => .nx (e1.set i (.own false xs))
    | .d _ => .bad) Q := h
  refine ⟨B, F, e, r, ?_⟩
  cases q : evE G Γ a e with
  | bad => rw [q] at h; exact h
  | exn c ps e1 => rw [q] at h; exact fun cls dx H' F' r1 s1 x => h cls dx σ H' F' r1 s1 x
  | ok x e1 =>
    rw [q] at h
    cases x with
    | d x => exact h.elim
    | fr ds => exact fun p vs H' F' r1 s1 hp hF x1 h0 ho => h _ H' F' (r1.setOwn hp hF x1 h0 ho) s1
theorem sem_ret {a : Ex} (h : tS K xo mg G Γ W (.ret a) Q σ H) : tRet (tE K xo mg G Γ W a) Q σ H := by
  obtain ⟨B, F, e, r, h⟩ := h
  have h : PostS K xo mg W B F ((evE G Γ a e).thn fun x e1 => .rt x e1) Q := h
  refine ⟨B, F, e, r, ?_⟩
  cases q : evE G Γ a e with
  | bad => rw [q] at h; exact h
  | exn c ps e1 => rw [q] at h; exact fun cls dx H' F' r1 s1 x => h cls dx σ H' F' r1 s1 x
  | ok x e1 =>
    rw [q] at h
    cases x with
    | d x => exact fun v H' F' r1 s1 dv => h v σ H' F' r1 s1 dv
    | fr ds => exact fun p vs H' F' r1 s1 x1 x2 x3 x4 x5 => h p vs σ H' F' r1 s1 x1 x2 x3 x4 x5
theorem sem_retn (h : tS K xo mg G Γ W .retn Q σ H) : tRetN Q σ H := by
  obtain ⟨B, F, e, r, h⟩ := h
  exact h .non σ H F r (Same.refl _) .non
theorem sem_ex {a : Ex} (h : tS K xo mg G Γ W (.ex a) Q σ H) : tDrop (tE K xo mg G Γ W a) Q σ H := by
  obtain ⟨B, F, e, r, h⟩ := h
  have h : PostS K xo mg W B F ((evE G Γ a e).thn fun _ e1 => .nx e1) Q := h
  exact tE_bindS r h (fun x y e q => rfl) fun x e1 v H1 F1 r1 s1 dv hp => hp σ H1 F1 r1 (Same.refl _)
theorem sem_ifS {c : Ex} {a b : Sxs} (h : tS K xo mg G Γ W (.ife c a b) Q σ H) : tIfS (tT K xo mg G Γ W c) (tSs K xo mg G Γ W a) (tSs K xo mg G Γ W b) Q σ H := by
  obtain ⟨B, F, e, r, h⟩ := h
  have h : PostS K xo mg W B F ((evT G Γ c e).thn fun x e1 => if x then evSs G Γ a e1 else evSs G Γ b e1) Q := h
  refine ⟨B, F, e, r, PostX.imp (bindS h) fun x e1 F1 H1 r1 s1 hp => ?_⟩
  cases x with
  | true =>
    rw [if_pos rfl] at hp
    rw [if_pos rfl]
    exact ⟨B, F1, e1, r1, hp⟩
  | false =>
    rw [if_neg Bool.false_ne_true] at hp
    rw [if_neg Bool.false_ne_true]
    exact ⟨B, F1, e1, r1, hp⟩
theorem sem_seti {i : Nat} {k a : Ex} (h : tS K xo mg G Γ W (.seti i k a) Q σ H) : tAsg (tE K xo mg G Γ W a) (gSub (tVar i) (tE K xo mg G Γ W k) rSetL) Q σ H := by
  obtain ⟨B, F, e, r, h⟩ := h
  have h : PostS K xo mg W B F ((evE G Γ a e).thn fun x e1 => match e1[i]? with
    | some (.own _ _) => (evE G Γ k e1).thn fun j e2 => match e2[i]?, j.fz with
      | some (.own p xs), .int n => match L2.ixN xs.length n with
        | some m => .nx (e2.set i (.own p (xs.set m x.fz)))
        | none => .bad
      | _, _ => .bad
    | _ => .bad) Q := h
  refine tE_bindS r h (fun x y e q => by rw [q]) fun x e1 v H1 F1 r1 s1 dv hp => ?_
  have hp : PostS K xo mg W B F1 (match e1[i]? with
    | some (.own _ _) => (evE G Γ k e1).thn fun j e2 => match e2[i]?, j.fz with
      | some (.own p xs), .int n => match L2.ixN xs.length n with
        | some m => .nx (e2.set i (.own p (xs.set m x)))
        | none => .bad
      | _, _ => .bad
    | _ => .bad) Q := hp
  cases q1 : e1[i]? with
  | none => rw [q1] at hp; exact hp.elim
  | some z1 =>
    rw [q1] at hp
    cases z1 with
    | un => exact hp.elim
    | val _ => exact hp.elim
    | own p0 xs0 =>
      obtain ⟨a0, vs0, g1, _⟩ := r1.own i p0 xs0 q1
      refine ⟨.ref a0, g1, ?_⟩
      have hp : PostS K xo mg W B F1 ((evE G Γ k e1).thn fun j e2 => match e2[i]?, j.fz with
        | some (.own p xs), .int n => match L2.ixN xs.length n with
          | some m => .nx (e2.set i (.own p (xs.set m x)))
          | none => .bad
        | _, _ => .bad) Q := hp
      refine tE_bindS r1 hp (fun x y e q => by rw [q]) fun j e2 w H2 F2 r2 s2 dw hp => ?_
      have hp : PostS K xo mg W B F2 (match e2[i]?, (DV.d j).fz with
        | some (.own p xs), .int n => match L2.ixN xs.length n with
          | some m => .nx (e2.set i (.own p (xs.set m x)))
          | none => .bad
        | _, _ => .bad) Q := hp
      cases q2 : e2[i]? with
      | none => rw [q2] at hp; exact hp.elim
      | some z2 =>
        rw [q2] at hp
        cases z2 with
        | un => exact hp.elim
        | val _ => exact hp.elim
        | own p1 xs1 =>
          cases j with
          | int n =>
            cases dw
            have hp : PostS K xo mg W B F2 (match L2.ixN xs1.length n with
              | some m => .nx (e2.set i (.own p1 (xs1.set m x)))
              | none => .bad) Q := hp
            obtain ⟨a1, vs1, k1, k2, k3, k4, _⟩ := r2.own i p1 xs1 q2
            have k1' := k1
            rw [g1] at k1
            injection k1 with k1
            injection k1 with k1
            injection k1 with k1
            subst k1
            cases em : L2.ixN xs1.length n with
            | none => rw [em] at hp; exact hp.elim
            | some m =>
              rw [em] at hp
              exact ⟨a0, vs1, n, m, rfl, rfl, k2, by rw [k4.length]; exact em, hp σ _ F2 (r2.write q2 g1 (k4.set m (dv.mono s2))) (Same.refl _)⟩
          | none => exact hp.elim
          | bool _ => exact hp.elim
          | str _ => exact hp.elim
          | list _ => exact hp.elim
          | tuple _ => exact hp.elim
          | dict _ => exact hp.elim
theorem sem_app {i : Nat} {a : Ex} (h : tS K xo mg G Γ W (.app i a) Q σ H) : tDrop (tBM K "list" rAppend (tVar i) (tCons (tE K xo mg G Γ W a) tNil)) Q σ H := by
  obtain ⟨B, F, e, r, h⟩ := h
  have h : PostS K xo mg W B F (match e[i]? with
    | some (.own _ _) => (evE G Γ a e).thn fun x e1 => match e1[i]? with
      | some (.own p xs) => if xs.length < lim then .nx (e1.set i (.own p (xs ++ [x.fz]))) else .bad
      | _ => .bad
    | _ => .bad) Q := h
  cases q1 : e[i]? with
  | none => rw [q1] at h; exact h.elim
  | some z1 =>
    rw [q1] at h
    cases z1 with
    | un => exact h.elim
    | val _ => exact h.elim
    | own p0 xs0 =>
      obtain ⟨a0, vs0, g1, g2, _⟩ := r.own i p0 xs0 q1
      refine ⟨.ref a0, g1, .inl ⟨rfl, vs0, .inl (.inl g2)⟩, ?_⟩
      have h : PostS K xo mg W B F ((evE G Γ a e).thn fun x e1 => match e1[i]? with
        | some (.own p xs) => if xs.length < lim then .nx (e1.set i (.own p (xs ++ [x.fz]))) else .bad
        | _ => .bad) Q := h
      refine tE_bindS r h (fun x y e q => by rw [q]) fun x e1 v H1 F1 r1 s1 dv hp => ?_
      have hp : PostS K xo mg W B F1 (match e1[i]? with
        | some (.own p xs) => if xs.length < lim then .nx (e1.set i (.own p (xs ++ [x]))) else .bad
        | _ => .bad) Q := hp
      cases q2 : e1[i]? with
      | none => rw [q2] at hp; exact hp.elim
      | some z2 =>
        rw [q2] at hp
        cases z2 with
        | un => exact hp.elim
        | val _ => exact hp.elim
        | own p1 xs1 =>
          have hp : PostS K xo mg W B F1 (if xs1.length < lim then .nx (e1.set i (.own p1 (xs1 ++ [x]))) else .bad) Q := hp
          by_cases hl : xs1.length < lim
          rotate_left
          · rw [if_neg hl] at hp; exact hp.elim
          rw [if_pos hl] at hp
          obtain ⟨a1, vs1, k1, k2, k3, k4, _⟩ := r1.own i p1 xs1 q2
          rw [g1] at k1
          injection k1 with k1
          injection k1 with k1
          injection k1 with k1
          subst k1
          exact ⟨a0, vs1, v, rfl, rfl, k2, by rw [k4.length]; exact lim_lt hl, hp σ _ F1 (r1.write q2 g1 (k4.append (.cons dv .nil))) (Same.refl _)⟩
theorem sem_for {g : Tg} {it : It} {b : Sxs} (h : tS K xo mg G Γ W (.for_ g it b) Q σ H) : tFor (tI K xo mg G Γ W it) (gT K xo g) (tSs K xo mg G Γ W b) Q σ H := by
  obtain ⟨B, F, e, r, h⟩ := h
  have h : PostS K xo mg W B F ((evIt G Γ it e).thn fun xs e1 => forGo g (evSs G Γ b) xs e1) Q := h
  refine ⟨B, F, e, r, PostX.imp (bindS h) fun xs e1 F1 H1 r1 s1 hp J wk => ?_⟩
  refine ⟨fun i m σ H => m = xs.length - i ∧ i ≤ xs.length ∧ ∃ F' e', Same F1 F' ∧ Rel K xo B F' σ H e' ∧ PostS K xo mg W B F' (forGo g (evSs G Γ b) (xs.drop i) e') Q, ⟨_, rfl, Nat.zero_le _, F1, e1, Same.refl _, r1, hp⟩, ?_⟩
  rintro i m σ2 H2 ⟨rfl, hi, F', e', s', R', hgo⟩
  obtain ⟨wgo, wst⟩ := wk s' R'
  by_cases hlt : i < xs.length
  · have hx : xs[i]? = some xs[i] := by simp [hlt]
    obtain ⟨go, yl⟩ := wgo i _ hx
    rw [List.drop_eq_getElem_cons hlt] at hgo
    refine .inr ⟨go, fun σ' H' => ∃ F3 e3, Same F1 F3 ∧ Rel K xo B F3 σ' H' e3 ∧ PostS K xo mg W B F3 (forGo g (evSs G Γ b) (xs.drop (i + 1)) e3) Q, fun σ' H' ⟨F3, e3, k1, k2, k3⟩ => ⟨xs.length - (i + 1), by omega, rfl, hlt, F3, e3, k1, k2, k3⟩, fun xv H3 y3 => ?_⟩
    obtain ⟨F3, s3, R3, d3⟩ := yl xv H3 y3
    have hgo : PostS K xo mg W B F' (match bindT g xs[i] e' with
      | none => .bad
      | some e1 => match evSs G Γ b e1 with
        | .nx e2 => forGo g (evSs G Γ b) (xs.drop (i + 1)) e2
        | .ct e2 => forGo g (evSs G Γ b) (xs.drop (i + 1)) e2
        | .bk e2 => .nx e2
        | .rt v e2 => .rt v e2
        | .exn c ps e2 => .exn c ps e2
        | .bad => .bad) Q := hgo
    cases hb : bindT g xs[i] e' with
    | none => rw [hb] at hgo; exact hgo.elim
    | some e3 =>
      rw [hb] at hgo
      refine ⟨B, F3, e', xs[i], e3, R3, d3, hb, fun σ4 R4 _ => ⟨B, F3, e3, R4, ?_⟩⟩
      have hgo : PostS K xo mg W B F' (match evSs G Γ b e3 with
        | .nx e2 => forGo g (evSs G Γ b) (xs.drop (i + 1)) e2
        | .ct e2 => forGo g (evSs G Γ b) (xs.drop (i + 1)) e2
        | .bk e2 => .nx e2
        | .rt v e2 => .rt v e2
        | .exn c ps e2 => .exn c ps e2
        | .bad => .bad) Q := hgo
      cases hr : evSs G Γ b e3 with
      | nx e4 => rw [hr] at hgo; exact fun σ' H' F5 r5 s5 => ⟨F5, e4, (s'.trans s3).trans s5, r5, PostS.sub hgo (s3.trans s5)⟩
      | ct e4 => rw [hr] at hgo; exact fun σ' H' F5 r5 s5 => ⟨F5, e4, (s'.trans s3).trans s5, r5, PostS.sub hgo (s3.trans s5)⟩
      | bk e4 => rw [hr] at hgo; exact fun σ' H' F5 r5 s5 => hgo σ' H' F5 r5 (s3.trans s5)
      | rt v e4 =>
        rw [hr] at hgo
        cases v with
        | d d => exact fun v σ' H' F5 r5 s5 => hgo v σ' H' F5 r5 (s3.trans s5)
        | fr ds => exact fun p vs σ' H' F5 r5 s5 => hgo p vs σ' H' F5 r5 (s3.trans s5)
      | exn c ps e4 => rw [hr] at hgo; exact fun cls dx σ' H' F5 r5 s5 => hgo cls dx σ' H' F5 r5 (s3.trans s5)
      | bad => rw [hr] at hgo; exact hgo
  · have ei : i = xs.length := by omega
    subst ei
    rw [List.drop_length] at hgo
    exact .inl ⟨wst, hgo σ2 H2 F' R' (Same.refl _)⟩
theorem sem_whil {n : Env → Nat} {c : Ex} {b : Sxs} (h : tS K xo mg G Γ W (.whil n c b) Q σ H) : tWhile (tT K xo mg G Γ W c) (tSs K xo mg G Γ W b) Q σ H := by
  obtain ⟨B, F, e, r, h⟩ := h
  have h : PostS K xo mg W B F (whileGo (evT G Γ c) (evSs G Γ b) (n e) e) Q := h
  refine ⟨fun m σ H => ∃ F' e', Same F F' ∧ Rel K xo B F' σ H e' ∧ PostS K xo mg W B F' (whileGo (evT G Γ c) (evSs G Γ b) m e') Q, ⟨n e, F, e, Same.refl _, r, h⟩, ?_⟩
  rintro m σ2 H2 ⟨F', e', s', R', hgo⟩
  cases m with
  | zero => exact hgo.elim
  | succ m =>
    have hgo : PostS K xo mg W B F' ((evT G Γ c e').thn fun b' e1 => if b' then (match evSs G Γ b e1 with
      | .nx e2 => whileGo (evT G Γ c) (evSs G Γ b) m e2
      | .ct e2 => whileGo (evT G Γ c) (evSs G Γ b) m e2
      | .bk e2 => .nx e2
      | .rt v e2 => .rt v e2
      | .exn c ps e2 => .exn c ps e2
      | .bad => .bad) else .nx e1) Q := hgo
    refine ⟨B, F', e', R', PostX.imp (bindS hgo) fun x e1 F1 H1 r1 s1 hp => ?_⟩
    cases x with
    | false =>
      rw [if_neg Bool.false_ne_true] at hp
      rw [if_neg Bool.false_ne_true]
      exact hp σ2 H1 F1 r1 (Same.refl _)
    | true =>
      rw [if_pos rfl] at hp
      rw [if_pos rfl]
      refine ⟨fun σ' H' => ∃ F3 e3, Same F F3 ∧ Rel K xo B F3 σ' H' e3 ∧ PostS K xo mg W B F3 (whileGo (evT G Γ c) (evSs G Γ b) m e3) Q, fun σ' H' q => ⟨m, Nat.lt_succ_self _, q⟩, B, F1, e1, r1, ?_⟩
      cases hr : evSs G Γ b e1 with
      | nx e4 => rw [hr] at hp; exact fun σ' H' F5 r5 s5 => ⟨F5, e4, (s'.trans s1).trans s5, r5, PostS.sub hp s5⟩
      | ct e4 => rw [hr] at hp; exact fun σ' H' F5 r5 s5 => ⟨F5, e4, (s'.trans s1).trans s5, r5, PostS.sub hp s5⟩
      | bk e4 => rw [hr] at hp; exact hp
      | rt v e4 =>
        rw [hr] at hp
        cases v with
        | d d => exact hp
        | fr ds => exact hp
      | exn c ps e4 => rw [hr] at hp; exact hp
      | bad => rw [hr] at hp; exact hp
theorem sem_rai {c : Str} {C : Addr} (hc : mg c = some (.ref C)) (h : tS K xo mg G Γ W (.rai c .nil) Q σ H) : W (.ref C) none σ H := by
  obtain ⟨B, F, e, r, h⟩ := h
  have h : PostS K xo mg W B F (.exn c [] e) Q := h
  exact h _ _ σ H F r (Same.refl _) ⟨C, hc, rfl, rfl⟩
theorem sem_pass (h : tS K xo mg G Γ W .pass Q σ H) : tNext Q σ H := by
  obtain ⟨B, F, e, r, h⟩ := h
  exact h σ H F r (Same.refl _)
theorem sem_brk (h : tS K xo mg G Γ W .brk Q σ H) : tBreak Q σ H := by
  obtain ⟨B, F, e, r, h⟩ := h
  exact h σ H F r (Same.refl _)
theorem sem_cnt (h : tS K xo mg G Γ W .cnt Q σ H) : tCont Q σ H := by
  obtain ⟨B, F, e, r, h⟩ := h
  exact h σ H F r (Same.refl _)
/-- two names, stored from the right -/
theorem sem_par {i j : Nat} {a b : Ex} (h : tS K xo mg G Γ W (.asg (.tp [.nm i, .nm j]) (.tup (.cons a (.cons b .nil)))) Q σ H) : tPar i j (tEs K xo mg G Γ W (.cons a (.cons b .nil))) Q σ H := by
  obtain ⟨B, F, e, r, h⟩ := h
  have h : PostS K xo mg W B F ((evE G Γ (.tup (.cons a (.cons b .nil))) e).thn fun x e1 => match bindT (.tp [.nm i, .nm j]) x.fz e1 with
    | some e2 => .nx e2
    | none => .bad) Q := h
  refine ⟨B, F, e, r, ?_⟩
  have h : PostS K xo mg W B F (((evEs G Γ (.cons a (.cons b .nil)) e).bind fun xs e1 => if xs.length ≤ lim then R.ok (DV.d (.tuple xs)) e1 else R.bad).thn fun x e1 => match bindT (.tp [.nm i, .nm j]) x.fz e1 with
    | some e2 => .nx e2
    | none => .bad) Q := h
  cases q : evEs G Γ (.cons a (.cons b .nil)) e with
  | bad => rw [q] at h; exact h
  | exn c ps e1 => rw [q] at h; exact fun cls dx H' F' r1 s1 x => h cls dx σ H' F' r1 s1 x
  | ok xs e1 =>
    rw [q] at h
    have h : PostS K xo mg W B F ((if xs.length ≤ lim then R.ok (DV.d (.tuple xs)) e1 else R.bad).thn fun x e1 => match bindT (.tp [.nm i, .nm j]) x.fz e1 with
      | some e2 => .nx e2
      | none => .bad) Q := h
    by_cases hl : xs.length ≤ lim
    rotate_left
    · rw [if_neg hl] at h; exact h.elim
    rw [if_pos hl] at h
    intro H' F' r1 s1 vs dv
    match xs, dv, h with
    | [x, y], .cons d1 (.cons d2 .nil), h =>
      exact ⟨_, _, rfl, h _ H' F' ((r1.setVal d1).setVal d2) s1⟩
    | [], _, h => exact h.elim
    | [_], _, h => exact h.elim
    | _ :: _ :: _ :: _, _, h => exact h.elim
theorem sem_par3 {i j l : Nat} {a b c : Ex} (h : tS K xo mg G Γ W (.asg (.tp [.nm i, .nm j, .nm l]) (.tup (.cons a (.cons b (.cons c .nil))))) Q σ H) : tPar3 i j l (tEs K xo mg G Γ W (.cons a (.cons b (.cons c .nil)))) Q σ H := by
  obtain ⟨B, F, e, r, h⟩ := h
  refine ⟨B, F, e, r, ?_⟩
  have h : PostS K xo mg W B F (((evEs G Γ (.cons a (.cons b (.cons c .nil))) e).bind fun xs e1 => if xs.length ≤ lim then R.ok (DV.d (.tuple xs)) e1 else R.bad).thn fun x e1 => match bindT (.tp [.nm i, .nm j, .nm l]) x.fz e1 with
    | some e2 => .nx e2
    | none => .bad) Q := h
  cases q : evEs G Γ (.cons a (.cons b (.cons c .nil))) e with
  | bad => rw [q] at h; exact h
  | exn c ps e1 => rw [q] at h; exact fun cls dx H' F' r1 s1 x => h cls dx σ H' F' r1 s1 x
  | ok xs e1 =>
    rw [q] at h
    have h : PostS K xo mg W B F ((if xs.length ≤ lim then R.ok (DV.d (.tuple xs)) e1 else R.bad).thn fun x e1 => match bindT (.tp [.nm i, .nm j, .nm l]) x.fz e1 with
      | some e2 => .nx e2
      | none => .bad) Q := h
    by_cases hl : xs.length ≤ lim
    rotate_left
    · rw [if_neg hl] at h; exact h.elim
    rw [if_pos hl] at h
    intro H' F' r1 s1 vs dv
    match xs, dv, h with
    | [x, y, z], .cons d1 (.cons d2 (.cons d3 .nil)), h =>
      exact ⟨_, _, _, rfl, h _ H' F' (((r1.setVal d1).setVal d2).setVal d3) s1⟩
    | [], _, h => exact h.elim
    | [_], _, h => exact h.elim
    | [_, _], _, h => exact h.elim
    | _ :: _ :: _ :: _ :: _, _, h => exact h.elim
theorem _root_.DL.Rel.setUn {i : Nat} (r : Rel K xo B F σ H e) : Rel K xo B F (σ.set i none) H (e.set i .un) := by
  refine r.part (by rw [List.length_set, List.length_set]; exact r.len) fun k s q => ?_
  rcases getSet q with ⟨_, z⟩ | ⟨z, q⟩
  · exact .inl z
  · exact .inr ⟨q, by rw [List.getElem?_set_ne z]⟩
/-- try: b; except c as n: m = n -/
theorem sem_tryc {b : Sxs} {c : Str} {i j : Nat} {D : Addr} (ef : ExF K mg) (xof : ∀ k o, exNames.contains k = true → (xo k none o ↔ ∃ C a, mg k = some (.ref C) ∧ o = ExP (.ref C) a)) (hc : exNames.contains c = true) (hm : mg c = some (.ref D)) (h : tS K xo mg G Γ W (.tryc b c i j) Q σ H) :
    tSs K xo mg G Γ (wCat K (.ref D) i (fun _ Dn σ H => ∃ v, σ[i]? = some (some v) ∧ Dn.nx (σ.set j (some v)) H) W Q) b Q σ H := by
  obtain ⟨B, F, e, r, h⟩ := h
  have h : PostS K xo mg W B F (match evSs G Γ b e with
    | .exn k ps e1 => catR c i j k ps e1
    | r => r) Q := h
  refine ⟨B, F, e, r, ?_⟩
  cases q : evSs G Γ b e with
  | nx e1 => rw [q] at h; exact h
  | bk e1 => rw [q] at h; exact h
  | ct e1 => rw [q] at h; exact h
  | rt v e1 =>
    rw [q] at h
    cases v with
    | d d => exact h
    | fr ds => exact h
  | bad => rw [q] at h; exact h
  | exn k ps e1 =>
    rw [q] at h
    have h : PostS K xo mg W B F (catR c i j k ps e1) Q := h
    clear q
    intro cls dx σ' H' F' r1 s1 x
    unfold catR at h
    by_cases hk : exNames.contains k = true
    · rw [if_pos hk] at h
      obtain ⟨C, m1, rfl, hps⟩ := id x
      have e2 := (ef.sub k c C D hk hc m1 hm).2
      refine ⟨exSub k c, e2, fun hb => ?_, fun hb => ?_⟩
      · rw [if_pos hb] at h
        cases ps with
        | cons p t => exact h.elim
        | nil =>
          have hps : dx = none := hps
          refine ⟨hps, fun a na => ?_⟩
          have h : PostS K xo mg W B F (if i < e1.length then .nx (((e1.set i (.val (exD k []))).set j (.val (exD k []))).set i .un) else .bad) Q := h
          have r2 : Rel K xo B (upd F' a (ExP (.ref C) a)) σ' (upd H' a (ExP (.ref C) a)) e1 := r1.laid na
          have hF : F' a = none := r1.f0 na
          have dn : Den K xo (upd F' a (ExP (.ref C) a)) (.ref a) (exD k []) := .exc0 upd_same ((xof k _ hk).mpr ⟨C, a, m1, rfl⟩)
          by_cases hi : i < e1.length
          · rw [if_pos hi] at h
            refine ⟨.ref a, List.getElem?_set_self (by rw [r1.len]; exact hi), ?_⟩
            exact h _ _ _ (((r2.setVal dn).setVal dn).setUn) (s1.trans (same_upd hF))
          · rw [if_neg hi] at h
            exact h.elim
      · rw [if_neg (by rw [hb]; exact Bool.false_ne_true)] at h
        exact h _ dx σ' H' F' r1 s1 x
    · rw [if_neg hk] at h
      exact h.elim
end
end DL


set_option Elab.async false
set_option linter.all false
set_option maxRecDepth 100000
set_option maxHeartbeats 8000000
/-! DL19: the main theorem of statements. -/
namespace DL
open PySem PySem.Spec PyProof.Rows L2

def noComp : Expr → Bool
  | .ListComp _ _ _ _ => false
  | .SetComp _ _ _ _ => false
  | .DictComp _ _ _ _ _ => false
  | _ => true
/-- a plain assignment, as to how the stores go -/
def asgB : Expr → Expr → Bool
  | .Tuple ts _ _, .Tuple vs _ _ => (!(ts.length == 2 || ts.length == 3)) || vs.length != ts.length || vs.all (foldedForSure 8)
  | .Tuple _ _ _, _ => true
  | .Name _ _, _ => true
  | _, _ => false
def lcB (sc : Scope) (x : Str) : Bool := sc.names.lookup x == some .local
/-- two or three local names on one line, stored from the right -/
def parB (sc : Scope) : Expr → Expr → Bool
  | .Tuple [.Name x px, .Name y py] _ _, .Tuple [u, v] _ _ => lcB sc x && lcB sc y && py.line == px.line && x != y && argB u && argB v && !([u, v].all (foldedForSure 8)) && !([u, v].all (constantsAlone 8))
  | .Tuple [.Name x px, .Name y py, .Name z pz] _ _, .Tuple [u, v, w] _ _ => lcB sc x && lcB sc y && lcB sc z && py.line == px.line && pz.line == px.line && x != y && x != z && y != z && argB u && argB v && argB w && !([u, v, w].all (foldedForSure 8)) && !([u, v, w].all (constantsAlone 8))
  | _, _ => false
/-- try: body; except x as n: y = z -/
def tryOf : Stmt → Option (List Stmt × Str × Str × Str × Str)
  | .Try body [.ExceptHandler (some (.Name x _)) (some n) [.Assign [.Name y _] (.Name z _) _] _] [] [] _ => some (body, x, n, y, z)
  | _ => none
theorem tryOf_eq {st : Stmt} {q : List Stmt × Str × Str × Str × Str} (h : tryOf st = some q) : ∃ np py pz pa ph pos, st = .Try q.1 [.ExceptHandler (some (.Name q.2.1 np)) (some q.2.2.1) [.Assign [.Name q.2.2.2.1 py] (.Name q.2.2.2.2 pz) pa] ph] [] [] pos := by
  unfold tryOf at h
  split at h
  · have h := Option.some.inj h
    subst h
    exact ⟨_, _, _, _, _, _, rfl⟩
  · cases h
mutual
def ckS (cf : Cf) (sc : Scope) : Sx → Stmt → Bool
  | .asg t a, .Assign [tg] e _ => ckTg cf sc none t tg && ckE cf sc none a e && (asgB tg e || parB sc tg e)
  | .own i a, .Assign [.Name x _] e _ => atB cf.N i x && stB sc none x && ckE cf sc none a e
  | .seti i k a, .Assign [.Subscript (.Name x _) sl _] e _ => nmB cf sc i x && plainB sl && ckE cf sc none k sl && ckE cf sc none a e
  | .app i a, .Expr (.Call (.Attribute (.Name x _) m ap) [e] [] cp) _ => nmB cf sc i x && m == ("append" : Str) && ap.endLine == cp.line && argB e && ckE cf sc none a e
  | .ife c a b, .If t x y _ => ckE cf sc none c t && ckSs cf sc a x && ckSs cf sc b y
  | .for_ g it b, .For tg iter body [] _ => ckTg cf sc none g tg && ckIt cf sc none it (isTup tg) iter && ckSs cf sc b body
  | .whil _ c b, .While t body [] _ => ckE cf sc none c t && ckSs cf sc b body
  | .ret a, .Return (some e) _ => ckE cf sc none a e
  | .retn, .Return none _ => true
  | .rai c .nil, .Raise (some (.Call (.Name x _) [.Constant (.str _) _ _] [] _)) none _ => x == c && cf.ex.contains x && gnB sc x
  | .ex a, .Expr e _ => noComp e && ckE cf sc none a e
  | .pass, .Pass _ => true
  | .brk, .Break _ => true
  | .cnt, .Continue _ => true
  | .tryc b c i j, st => (match tryOf st with
    | some (body, x, n, y, z) => x == c && gnB sc x && cf.cx.contains c && exNames.contains c && atB cf.N i n && lcB sc n && z == n && nmB cf sc i z && atB cf.N j y && stB sc none y && ckSs cf sc b body
    | none => false)
  | .unk, _ => true
  | _, _ => false
def ckSs (cf : Cf) (sc : Scope) : Sxs → List Stmt → Bool
  | .nil, [] => true
  | .cons s ss, t :: ts => ckS cf sc s t && ckSs cf sc ss ts
  | _, _ => false
end

/-- a def's context -/
structure XSt (X : Cx) (cf : Cf) (sc : Scope) (G : List D) (Γ : List Fn) (xo : XO) (W : WX) : Prop where
  o : XOk X cf sc none G Γ xo W
  po : PassesOwn (model X.prog X.w) X.A X.env X.xe
  bk : X.env.blockKind = .function
  exc : ∀ x ∈ cf.ex, ∃ C, X.mg x = some (.ref C) ∧ PySem.W.excIn X.K C [.type "ValueError", .type "Exception", .type "BaseException", .type "object"] "ValueError.__new__" = true ∧ PySem.W.keepIn X.K (.ref C) = true ∧ PySem.W.subIn X.K (.ref C) (.type "BaseException") = some true ∧ PySem.W.typeIn X.K (.ref C) = some (.type "type")
  stk : X.stack = X.env :: X.outer
  frm : X.env.frame = some X.env.locals
  noex : X.ex = []

theorem _root_.L2.PS.imp {X : Cx} {e : Stmt} {t t' : TS} (h : PS X e t) (i : ∀ D σ H, t' D σ H → t D σ H) : PS X e t' := DL.PS.imp h i
theorem _root_.L2.PSs.imp {X : Cx} {e : List Stmt} {t t' : TS} (h : PSs X e t) (i : ∀ D σ H, t' D σ H → t D σ H) : PSs X e t' := DL.PSs.imp h i
section
variable {env : PySem.Env}
theorem swapsOf {e : Expr} (h : noComp e = true) (t : Option Expr) (n : Nat) : swapsWith e t n env = pure false := by
  cases e <;> first | rfl | cases h
theorem ckE_comp {cf : Cf} {sc : Scope} {fc : Option Scope} {a : Ex} {e : Expr} (h : ckE cf sc fc a e = true) : noComp e = true ∨ ∃ x vs g it c elt tg iter ifs scope pos, a = .comp x vs g it c ∧ e = .ListComp elt [⟨tg, iter, ifs, 0⟩] scope pos := by
  cases e with
  | ListComp elt gens scope pos =>
    cases a with
    | comp x vs g it c =>
      match gens, h with
      | [⟨tg, iter, ifs, 0⟩], h => exact .inr ⟨x, vs, g, it, c, elt, tg, iter, ifs, scope, pos, rfl, rfl⟩
    | lit c => cases c <;> exact absurd (show false = true from h) (by decide)
    | _ => exact absurd (show false = true from h) (by decide)
  | SetComp _ _ _ _ =>
    cases a with
    | lit c => cases c <;> exact absurd (show false = true from h) (by decide)
    | _ => exact absurd (show false = true from h) (by decide)
  | DictComp _ _ _ _ _ =>
    cases a with
    | lit c => cases c <;> exact absurd (show false = true from h) (by decide)
    | _ => exact absurd (show false = true from h) (by decide)
  | _ => exact .inl rfl
theorem swapN {ts vs : List Expr} {k k2 : Nat} {p p2 : Pos} (h : asgB (.Tuple ts k p) (.Tuple vs k2 p2) = true) : swappedStores [.Tuple ts k p] (.Tuple vs k2 p2) env = pure none := by
  have h : ((!(ts.length == 2 || ts.length == 3)) || vs.length != ts.length || vs.all (foldedForSure 8)) = true := h
  unfold swappedStores
  simp only [pure_bind]
  by_cases h1 : (!(ts.length == 2 || ts.length == 3) || vs.length != ts.length || env.blockKind != .function) = true
  · rw [if_pos h1]
  · rw [if_neg h1]
    have h2 : vs.all (foldedForSure 8) = true := by
      simp only [Bool.or_eq_true, not_or] at h1 h
      rcases h with (h | h) | h
      · exact absurd h h1.1.1
      · exact absurd h h1.1.2
      · exact h
    simp only [h2, if_true]
    repeat' (first | rfl | split)
theorem swap2 {x y : Str} {px py p p2 : Pos} {k k2 : Nat} {u v : Expr} (bk : env.blockKind = .function) (hx : env.kindOf x = some .local) (hy : env.kindOf y = some .local) (hl : (py.line == px.line) = true) (ne : (x != y) = true)
    (su : argB u = true) (sv : argB v = true) (f : [u, v].all (foldedForSure 8) = false) (c : [u, v].all (constantsAlone 8) = false) : swappedStores [.Tuple [.Name x px, .Name y py] k p] (.Tuple [u, v] k2 p2) env = pure (some [x, y]) := by
  have ne' : (y == x) = false := by
    rw [bne, Bool.not_eq_true'] at ne
    rw [beq_eq_false_iff_ne] at ne ⊢
    exact fun z => ne z.symm
  have hl' : (px.line == px.line) = true := by simp
  unfold swappedStores
  simp [bk, hx, hy, hl, Expr.pos, f, c, List.eraseDups, List.eraseDupsBy, List.eraseDupsBy.loop, ne', List.filterMap]
  intro h
  rcases h with h | h
  · split at h
    · cases su
    · cases h
  · split at h
    · cases sv
    · cases h
theorem swap3 {x y z : Str} {px py pz p p2 : Pos} {k k2 : Nat} {u v w : Expr} (bk : env.blockKind = .function) (hx : env.kindOf x = some .local) (hy : env.kindOf y = some .local) (hz : env.kindOf z = some .local) (hl : (py.line == px.line) = true) (hl2 : (pz.line == px.line) = true)
    (ne : (x != y) = true) (ne2 : (x != z) = true) (ne3 : (y != z) = true)
    (su : argB u = true) (sv : argB v = true) (sw : argB w = true) (f : [u, v, w].all (foldedForSure 8) = false) (c : [u, v, w].all (constantsAlone 8) = false) : swappedStores [.Tuple [.Name x px, .Name y py, .Name z pz] k p] (.Tuple [u, v, w] k2 p2) env = pure (some [x, y, z]) := by
  have turn : ∀ {x y : Str}, (x != y) = true → (y == x) = false := fun {x y} ne => by
    rw [bne, Bool.not_eq_true'] at ne
    rw [beq_eq_false_iff_ne] at ne ⊢
    exact fun z => ne z.symm
  have n1 := turn ne
  have n2 := turn ne2
  have n3 := turn ne3
  have hl' : (px.line == px.line) = true := by simp
  unfold swappedStores
  simp [bk, hx, hy, hz, hl, hl2, Expr.pos, f, c, List.eraseDups, List.eraseDupsBy, List.eraseDupsBy.loop, n1, n2, n3, List.filterMap]
  intro h
  rcases h with h | h | h
  · split at h
    · cases su
    · cases h
  · split at h
    · cases sv
    · cases h
  · split at h
    · cases sw
    · cases h
end
end DL


set_option Elab.async false
set_option linter.all false
set_option maxRecDepth 100000
set_option maxHeartbeats 8000000
/-! DL20: a text of statements that agrees with its term does what the term says. -/
namespace DL
open PySem PySem.Spec PyProof.Rows L2

section
variable {cf : Cf} {G : List D} {Γ : List Fn} {xo : XO} {X : Cx} {sc : Scope} {W : WX}
theorem XSt.kd (o : XSt X cf sc G Γ xo W) {x : Str} (h : lcB sc x = true) : X.env.kindOf x = some .local ∧ X.env.scope.names.lookup x = some .local := by
  have e : sc.names.lookup x = some .local := beq_iff_eq.mp h
  have e2 : X.env.scope.names.lookup x = some .local := by rw [o.o.hsc]; exact e
  exact ⟨e2, e2⟩
/-- a name gets a term's value -/
theorem ps_name (o : XSt X cf sc G Γ xo W) {i : Nat} {x : Str} {a : Ex} {e : Expr} {px pos : Pos} (hi : atB cf.N i x = true) (hs : stB sc none x = true) (h : ckE cf sc none a e = true) :
    PS X (.Assign [.Name x px] e pos) (fun Dn σ H => tE X.K xo X.mg G Γ W a σ H fun v H1 => gName i v σ H1 Dn.nx) := by
  have hN : X.N.Nodup := by rw [o.o.hN]; exact o.o.nd
  have hi' : X.N[i]? = some x := by rw [o.o.hN]; exact atB_e hi
  have hl : Loc X.env.scope x := by rw [o.o.hsc]; exact stB_loc hs
  have hf := o.o.fn x hs
  rcases ckE_comp h with hc | ⟨x0, vs, g, it, c, elt, tg, iter, ifs, scope, ps, ea, ee⟩
  · exact ps_set hN hi' hl (okE a o.o e h).1 (swapsOf hc _ _) hf
  · subst ea ee
    have hp := (okE (.comp x0 vs g it c) o.o _ h).1
    cases hb : (X.env.blockKind == .function && X.env.kindOf x == some .local && px.line == ps.line && !(scope.names.any fun (n, k) => n == x && (k == .local || k == .cell))) with
    | false =>
      refine ps_set hN hi' hl hp ?_ hf
      show (pure _ : Sem Bool) = pure false
      exact congrArg pure hb
    | true =>
      have h : (blkC cf.N sc scope (ownOf cf.N vs) && (ownOf cf.N vs).map (·.2) == vs && (tgS g).all (fun i => vs.contains i) && ckTg cf (relS scope sc) (some scope) g tg && ckIt cf sc none it (isTup tg) iter &&
        ckE cf (relS scope sc) (some scope) x0 elt && ckOp cf (relS scope sc) (some scope) c ifs.head? && len01 ifs) = true := h
      simp only [Bool.and_eq_true] at h
      obtain ⟨⟨⟨⟨⟨⟨⟨k1, k2⟩, k3⟩, k4⟩, k5⟩, k6⟩, k7⟩, k8⟩ := h
      have e2 : (ownOf cf.N vs).map (·.2) = vs := by simpa using k2
      have hg : ∀ i ∈ tgS g, i ∈ vs := fun i hi => by
        have := List.all_eq_true.mp k3 i hi
        simpa using this
      have hi2 := okIt it o.o tg iter k5
      have hbk : BlkOk X.N X.env.scope scope (ownOf cf.N vs) := by
        rw [o.o.hN, o.o.hsc]
        exact blkOk_by k1
      have hyl : X.env.scope.names.lookup x = some .local := by
        simp only [Bool.and_eq_true] at hb
        exact beq_iff_eq.mp hb.1.1.2
      have main := ps_setLc (py := px) (pos := ps) (spos := pos) (g := gT X.K xo g) (tt := tOT X.K xo X.mg G Γ W0 c) (te := tE X.K xo X.mg G Γ W0 x0) o.o.calm hN hi' hyl
        (by show (pure _ : Sem Bool) = pure true; exact congrArg pure hb) hi2.1 hbk
        (fun s H C cl fp => pg_ok (o.o.blk scope s H C cl fp) g tg k4) (fun s H C cl fp => okTs c (o.o.blk scope s H C cl fp) ifs k7 k8) (fun s H C cl fp => (okE x0 (o.o.blk scope s H C cl fp) elt k6).1) hi2.2
      refine main.imp fun Dn σ H q => ?_
      rw [e2]
      exact comp_ok hg q
theorem ckEs_two {es : Exs} {u v : Expr} {fc : Option Scope} (h : ckEs cf sc fc es [u, v] = true) : ∃ a b, es = .cons a (.cons b .nil) := by
  match es, h with
  | .cons a (.cons b .nil), _ => exact ⟨a, b, rfl⟩
  | .nil, h => exact nomatch h
  | .cons a .nil, h =>
    have h : (argB u && ckE cf sc fc a u && false) = true := h
    rw [Bool.and_eq_true] at h
    exact nomatch h.2
  | .cons a (.cons b (.cons _ _)), h =>
    have h : (argB u && ckE cf sc fc a u && (argB v && ckE cf sc fc b v && false)) = true := h
    simp only [Bool.and_eq_true] at h
    exact nomatch h.2.2
theorem ckEs_three {es : Exs} {u v w : Expr} {fc : Option Scope} (h : ckEs cf sc fc es [u, v, w] = true) : ∃ a b c, es = .cons a (.cons b (.cons c .nil)) := by
  match es, h with
  | .cons a r, h =>
    have h : (argB u && ckE cf sc fc a u && ckEs cf sc fc r [v, w]) = true := h
    rw [Bool.and_eq_true] at h
    obtain ⟨b, c, e⟩ := ckEs_two h.2
    exact ⟨a, b, c, by rw [e]⟩
  | .nil, h => exact nomatch h
theorem ckE_tup {a : Ex} {es : List Expr} {k : Nat} {p : Pos} {fc : Option Scope} (h : ckE cf sc fc a (.Tuple es k p) = true) : ∃ xs, a = .tup xs ∧ ckEs cf sc fc xs es = true := by
  cases a with
  | tup xs => exact ⟨xs, rfl, h⟩
  | lit c => cases c <;> exact absurd (show false = true from h) (by decide)
  | _ => exact absurd (show false = true from h) (by decide)
theorem ckTg_nm {t : Tg} {x : Str} {p : Pos} {fc : Option Scope} (h : ckTg cf sc fc t (.Name x p) = true) : ∃ i, t = .nm i ∧ atB cf.N i x = true ∧ stB sc fc x = true := by
  cases t with
  | nm i =>
    have h : (atB cf.N i x && stB sc fc x) = true := h
    rw [Bool.and_eq_true] at h
    exact ⟨i, rfl, h.1, h.2⟩
  | tp _ => exact nomatch h
theorem ckTg_tp {t : Tg} {es : List Expr} {k : Nat} {p : Pos} {fc : Option Scope} (h : ckTg cf sc fc t (.Tuple es k p) = true) : ∃ ts, t = .tp ts ∧ ckTgs cf sc fc ts es = true := by
  cases t with
  | nm i => exact nomatch h
  | tp ts => exact ⟨ts, rfl, h⟩
theorem ckTgs_cons {ts : List Tg} {e : Expr} {es : List Expr} {fc : Option Scope} (h : ckTgs cf sc fc ts (e :: es) = true) : ∃ t r, ts = t :: r ∧ ckTg cf sc fc t e = true ∧ ckTgs cf sc fc r es = true := by
  cases ts with
  | nil => exact nomatch h
  | cons t r =>
    have h : (ckTg cf sc fc t e && ckTgs cf sc fc r es) = true := h
    rw [Bool.and_eq_true] at h
    exact ⟨t, r, rfl, h.1, h.2⟩
theorem ckTgs_nil {ts : List Tg} {fc : Option Scope} (h : ckTgs cf sc fc ts [] = true) : ts = [] := by
  cases ts with
  | nil => rfl
  | cons t r => exact nomatch h
theorem at_ne {i j : Nat} {x y : Str} (hi : atB cf.N i x = true) (hj : atB cf.N j y = true) (ne : (x != y) = true) : i ≠ j := fun e => by
  subst e
  have h1 := atB_e hi
  have h2 := atB_e hj
  rw [h1] at h2
  have h3 := Option.some.inj h2
  rw [h3] at ne
  simp at ne
theorem starEl (e : Expr) (env : PySem.Env) (es : List Expr) (h : argB e = true) : starEach (e :: es) env = (false, eval e env) :: starEach es env := starOf h
theorem ps_asgOk (o : XSt X cf sc G Γ xo W) {t : Tg} {a : Ex} {tg e : Expr} {pos : Pos} (h1 : ckTg cf sc none t tg = true) (h2 : ckE cf sc none a e = true) (h3 : (asgB tg e || parB sc tg e) = true) : PS X (.Assign [tg] e pos) (tS X.K xo X.mg G Γ W (.asg t a)) := by
  have hN : X.N.Nodup := by rw [o.o.hN]; exact o.o.nd
  cases tg with
  | Name x px =>
    obtain ⟨i, et, k1, k2⟩ := ckTg_nm h1
    subst et
    exact (ps_name o k1 k2 h2).imp fun Dn σ H q => sem_asgN q
  | Tuple ts k p =>
    obtain ⟨tt, et, k1⟩ := ckTg_tp h1
    subst et
    have plain : swappedStores [.Tuple ts k p] e X.env = pure none → PS X (.Assign [.Tuple ts k p] e pos) (tS X.K xo X.mg G Γ W (.asg (.tp tt) a)) := fun hw => by
      refine (ps_asg (okE a o.o e h2).1 (pg_ok o.o (.tp tt) _ h1) ?_ hw rfl).imp fun Dn σ H q => sem_asg q
      show swapsWith e (some (.Tuple ts k p)) pos.line X.env = pure false
      cases e <;> rfl
    by_cases ha : asgB (.Tuple ts k p) e = true
    · refine plain ?_
      cases e with
      | Tuple vs k2 p2 => exact swapN ha
      | _ => rfl
    · have hp : parB sc (.Tuple ts k p) e = true := by
        rw [Bool.or_eq_true] at h3
        exact h3.resolve_left ha
      unfold parB at hp
      split at hp
      · -- two
        rename_i x px y py k' p' u v k2 p2 e1
        injection e1 with e1 e2 e3
        subst e1 e2 e3
        simp only [Bool.and_eq_true, Bool.not_eq_true'] at hp
        obtain ⟨⟨⟨⟨⟨⟨⟨c1, c2⟩, c3⟩, c4⟩, c5⟩, c6⟩, c7⟩, c8⟩ := hp
        obtain ⟨t1, r1, e1, m1, n1⟩ := ckTgs_cons k1
        obtain ⟨t2, r2, e2, m2, n2⟩ := ckTgs_cons n1
        have e3 := ckTgs_nil n2
        obtain ⟨i, et, q1, q2⟩ := ckTg_nm m1
        obtain ⟨j, eu, q3, q4⟩ := ckTg_nm m2
        subst e3 e2 et eu e1
        obtain ⟨xs, ea, ce⟩ := ckE_tup h2
        subst ea
        obtain ⟨a1, b1, exs⟩ := ckEs_two ce
        subst exs
        have hs := swap2 (env := X.env) (k := k) (p := p) (k2 := k2) (p2 := p2) o.bk (o.kd c1).1 (o.kd c2).1 c3 c4 c5 c6 c7 c8
        exact (ps_par o.o.calm hN (by rw [o.o.hN]; exact atB_e q1) (by rw [o.o.hN]; exact atB_e q3) (at_ne q1 q3 c4) (o.kd c1).2 (o.kd c2).2 (okEs _ o.o _ ce) hs rfl).imp fun Dn σ H q => sem_par q
      · rename_i x px y py z pz k' p' u v w k2 p2 e1
        injection e1 with e1 e2 e3
        subst e1 e2 e3
        simp only [Bool.and_eq_true, Bool.not_eq_true'] at hp
        obtain ⟨⟨⟨⟨⟨⟨⟨⟨⟨⟨⟨⟨c1, c2⟩, c0⟩, c3⟩, c3'⟩, c4⟩, c4'⟩, c4''⟩, c5⟩, c6⟩, c6'⟩, c7⟩, c8⟩ := hp
        obtain ⟨t1, r1, e1, m1, n1⟩ := ckTgs_cons k1
        obtain ⟨t2, r2, e2, m2, n2⟩ := ckTgs_cons n1
        obtain ⟨t3, r3, e4, m3, n3⟩ := ckTgs_cons n2
        have e3 := ckTgs_nil n3
        obtain ⟨i, et, q1, q2⟩ := ckTg_nm m1
        obtain ⟨j, eu, q3, q4⟩ := ckTg_nm m2
        obtain ⟨l, ev, q5, q6⟩ := ckTg_nm m3
        subst e3 e4 e2 et eu ev e1
        obtain ⟨xs, ea, ce⟩ := ckE_tup h2
        subst ea
        obtain ⟨a1, b1, c9, exs⟩ := ckEs_three ce
        subst exs
        have hs := swap3 (env := X.env) (k := k) (p := p) (k2 := k2) (p2 := p2) o.bk (o.kd c1).1 (o.kd c2).1 (o.kd c0).1 c3 c3' c4 c4' c4'' c5 c6 c6' c7 c8
        exact (ps_par3 o.o.calm hN (by rw [o.o.hN]; exact atB_e q1) (by rw [o.o.hN]; exact atB_e q3) (by rw [o.o.hN]; exact atB_e q5) (at_ne q1 q3 c4) (at_ne q1 q5 c4') (at_ne q3 q5 c4'') (o.kd c1).2 (o.kd c2).2 (o.kd c0).2 (okEs _ o.o _ ce) hs rfl).imp fun Dn σ H q => sem_par3 q
      · cases hp
  | _ => cases t <;> exact nomatch h1
theorem few1 {e : Expr} {pos : Pos} {env : PySem.Env} (h : argB e = true) : ((backTo pos (starEach [e] env)).all (fun x => !x.1) && (backToKw pos (keywordEach [] env)).all (fun x => x.1.isSome) && decide (([e] : List Expr).length + ([] : List Keyword).length + (if ([] : List Keyword).isEmpty then 0 else 1) < 30)) = true := by
  rw [starOf h]
  rfl
theorem ps_tryOk (o : XSt X cf sc G Γ xo W) {b : Sxs} {c x n y z : Str} {i j : Nat} {body : List Stmt} {np py pz pa ph pos : Pos} (hb : ∀ (W : WX) (pn : List (Addr × Obj)) (xe : Value → Shared → Prop), Takes (X.tr pn xe) W → PassesOwn (model X.prog X.w) X.A X.env xe → PSs (X.tr pn xe) body (tSs X.K xo X.mg G Γ W b))
    (h1 : x = c) (h2 : glB sc x = true ∧ okN x = true) (h3 : c ∈ cf.cx) (h4 : exNames.contains c = true) (h5 : atB cf.N i n = true) (h6 : lcB sc n = true) (h7 : z = n) (h8 : nmB cf sc i z = true) (h9 : atB cf.N j y = true) (h10 : stB sc none y = true) :
    PS X (.Try body [.ExceptHandler (some (.Name x np)) (some n) [.Assign [.Name y py] (.Name z pz) pa] ph] [] [] pos) (tS X.K xo X.mg G Γ W (.tryc b c i j)) := by
  subst h1 h7
  have hN : X.N.Nodup := by rw [o.o.hN]; exact o.o.nd
  have hc : ∃ C, X.mg x = some (.ref C) := by
    rcases o.o.m.cxs x h3 with ⟨e1, _⟩ | ⟨C, e1, _⟩
    · subst e1
      exact absurd h4 (by decide +kernel)
    · exact ⟨C, e1⟩
  obtain ⟨C, hm⟩ := hc
  obtain ⟨v1, v2, v3, v4⟩ := o.o.nm h8
  refine (ps_try_cat (i := i) (c := .ref C) (tb := fun W => tSs X.K xo X.mg G Γ W b) o.noex o.stk o.frm hN (by rw [o.o.hN]; exact atB_e h5) (o.kd h6).1 ⟨o.o.gl h2.1, (okN_d h2.2).1, .inl hm⟩ o.o.tk hb fun a pn => ?_).imp fun Dn σ H q => sem_tryc o.o.m.exf o.o.m.xof h4 hm q
  exact (pss_one (ps_set (X := X.suite a pn) (i := j) hN (by show X.N[j]? = some y; rw [o.o.hN]; exact atB_e h9) (by show Loc X.env.scope y; rw [o.o.hsc]; exact stB_loc h10) (pe_var (X := X.suite a pn) v1 v2 v3 v4) rfl (o.o.fn y h10))).imp fun Dn σ H q => q
mutual
theorem okS : ∀ (s : Sx) {X : Cx} {W : WX} (o : XSt X cf sc G Γ xo W) (st : Stmt), ckS cf sc s st = true → PS X st (tS X.K xo X.mg G Γ W s)
  | .asg t a, X, W, o, st, h => by
    cases st with
    | Assign ts e pos =>
      match ts, h with
      | [tg], h =>
        have h : (ckTg cf sc none t tg && ckE cf sc none a e && (asgB tg e || parB sc tg e)) = true := h
        rw [Bool.and_eq_true, Bool.and_eq_true] at h
        exact ps_asgOk o h.1.1 h.1.2 h.2
    | _ => exact nomatch h
  | .own i a, X, W, o, st, h => by
    cases st with
    | Assign ts e pos =>
      match ts, h with
      | [.Name x px], h =>
        have h : (atB cf.N i x && stB sc none x && ckE cf sc none a e) = true := h
        simp only [Bool.and_eq_true] at h
        exact (ps_name o h.1.1 h.1.2 h.2).imp fun Dn σ H q => sem_own q
    | _ => exact nomatch h
  | .seti i k a, X, W, o, st, h => by
    cases st with
    | Assign ts e pos =>
      match ts, h with
      | [.Subscript (.Name x px) sl p], h =>
        have h : (nmB cf sc i x && plainB sl && ckE cf sc none k sl && ckE cf sc none a e) = true := h
        simp only [Bool.and_eq_true] at h
        obtain ⟨⟨⟨h1, h2⟩, h3⟩, h4⟩ := h
        obtain ⟨v1, v2, v3, v4⟩ := o.o.nm h1
        refine (ps_asg (okE a o.o e h4).1 (pg_sub (pe_var v1 v2 v3 v4) (okE k o.o sl h3).1 set_list ?_) ?_ ?_ rfl).imp fun Dn σ H q => sem_seti q
        · intro v
          cases sl <;> first | rfl | cases h2
        · show swapsWith e (some (.Subscript (.Name x px) sl p)) pos.line X.env = pure false
          cases e <;> rfl
        · rfl
    | _ => exact nomatch h
  | .app i a, X, W, o, st, h => by
    cases st with
    | Expr e0 pos =>
      match e0, h with
      | .Call (.Attribute (.Name x px) m ap) [e] [] cp, h =>
        have h : (nmB cf sc i x && m == ("append" : Str) && ap.endLine == cp.line && argB e && ckE cf sc none a e) = true := h
        simp only [Bool.and_eq_true] at h
        obtain ⟨⟨⟨⟨h1, h2⟩, h3⟩, h4⟩, h5⟩ := h
        obtain ⟨v1, v2, v3, v4⟩ := o.o.nm h1
        have em : m = ("append" : Str) := by simpa using h2
        subst em
        exact (ps_expr (pe_bm PySem.F.plainAttrs_list PySem.F.slot_list_append PySem.F.type_list_append mt_append (pe_var v1 v2 v3 v4) (pa_cons (okE a o.o e h5).1 pa_nil (starOf h4)) rfl (few1 h4) h3 (starOf h4) rfl) rfl).imp fun Dn σ H q => sem_app q
    | _ => exact nomatch h
  | .aug i op a, X, W, o, st, h => by
    cases st <;> exact nomatch h
  | .ife c a b, X, W, o, st, h => by
    cases st with
    | If t x y pos =>
      have h : (ckE cf sc none c t && ckSs cf sc a x && ckSs cf sc b y) = true := h
      simp only [Bool.and_eq_true] at h
      exact (ps_if (okE c o.o t h.1.1).2 (okSs a o x h.1.2) (okSs b o y h.2)).imp fun Dn σ H q => sem_ifS q
    | _ => exact nomatch h
  | .for_ g it b, X, W, o, st, h => by
    cases st with
    | For tg iter body orelse pos =>
      cases orelse with
      | cons _ _ => exact nomatch h
      | nil =>
        have h : (ckTg cf sc none g tg && ckIt cf sc none it (isTup tg) iter && ckSs cf sc b body) = true := h
        simp only [Bool.and_eq_true] at h
        have hi := okIt it o.o tg iter h.1.2
        exact (ps_for o.po o.o.calm hi.1 (pg_ok o.o g tg h.1.1) (okSs b o body h.2) hi.2).imp fun Dn σ H q => sem_for q
    | _ => exact nomatch h
  | .whil n c b, X, W, o, st, h => by
    cases st with
    | While t body orelse pos =>
      cases orelse with
      | cons _ _ => exact nomatch h
      | nil =>
        have h : (ckE cf sc none c t && ckSs cf sc b body) = true := h
        rw [Bool.and_eq_true] at h
        exact (ps_while o.po (okE c o.o t h.1).2 (okSs b o body h.2)).imp fun Dn σ H q => sem_whil q
    | _ => exact nomatch h
  | .ret a, X, W, o, st, h => by
    cases st with
    | Return v pos =>
      cases v with
      | none => exact nomatch h
      | some e => exact (ps_ret (okE a o.o e h).1).imp fun Dn σ H q => sem_ret q
    | _ => exact nomatch h
  | .retn, X, W, o, st, h => by
    cases st with
    | Return v pos =>
      cases v with
      | some _ => exact nomatch h
      | none => exact ps_retN.imp fun Dn σ H q => sem_retn q
    | _ => exact nomatch h
  | .rai c es, X, W, o, st, h => by
    cases es with
    | cons _ _ => cases st <;> exact nomatch h
    | nil =>
      cases st with
      | Raise e fr pos =>
        match e, fr, h with
        | some (.Call (.Name x p) [.Constant (.str m) j p2] [] pos2), none, h =>
          have h : (x == c && cf.ex.contains x && gnB sc x) = true := h
          unfold gnB at h
          simp only [Bool.and_eq_true] at h
          obtain ⟨⟨h1, h2⟩, h3, h4⟩ := h
          have ex : x = c := by simpa using h1
          subst ex
          have hm : x ∈ cf.ex := by simpa using h2
          obtain ⟨C, g1, g2, g3, g4, g5⟩ := o.exc x hm
          exact (ps_raise o.o.calm o.o.tk (pmk_own PySem.F.excBase_ValueError g2 g1 g3 (raises_own g4 g5) (o.o.gl h3) (okN_d h4).1)).imp fun Dn σ H q => sem_rai g1 q
      | _ => exact nomatch h
  | .ex a, X, W, o, st, h => by
    cases st with
    | Expr e pos =>
      have h : (noComp e && ckE cf sc none a e) = true := h
      rw [Bool.and_eq_true] at h
      exact (ps_expr (okE a o.o e h.2).1 (swapsOf h.1 _ _)).imp fun Dn σ H q => sem_ex q
    | _ => exact nomatch h
  | .pass, X, W, o, st, h => by
    cases st with
    | Pass pos => exact ps_pass.imp fun Dn σ H q => sem_pass q
    | _ => exact nomatch h
  | .brk, X, W, o, st, h => by
    cases st with
    | Break pos => exact ps_break.imp fun Dn σ H q => sem_brk q
    | _ => exact nomatch h
  | .cnt, X, W, o, st, h => by
    cases st with
    | Continue pos => exact ps_continue.imp fun Dn σ H q => sem_cnt q
    | _ => exact nomatch h
  | .tryc b c i j, X, W, o, st, h => by
    have h : (match tryOf st with
      | some (body, x, n, y, z) => x == c && gnB sc x && cf.cx.contains c && exNames.contains c && atB cf.N i n && lcB sc n && z == n && nmB cf sc i z && atB cf.N j y && stB sc none y && ckSs cf sc b body
      | none => false) = true := h
    cases ht : tryOf st with
    | none => rw [ht] at h; cases h
    | some q =>
      obtain ⟨body, x, n, y, z⟩ := q
      rw [ht] at h
      obtain ⟨np, py, pz, pa, ph, pos, est⟩ := tryOf_eq ht
      have h : (x == c && gnB sc x && cf.cx.contains c && exNames.contains c && atB cf.N i n && lcB sc n && z == n && nmB cf sc i z && atB cf.N j y && stB sc none y && ckSs cf sc b body) = true := h
      unfold gnB at h
      simp only [Bool.and_eq_true] at h
      obtain ⟨⟨⟨⟨⟨⟨⟨⟨⟨⟨h1, h2⟩, h3⟩, h4⟩, h5⟩, h6⟩, h7⟩, h8⟩, h9⟩, h10⟩, h11⟩ := h
      have hb := fun (W : WX) (pn : List (Addr × Obj)) (xe : Value → Shared → Prop) (tk : Takes (X.tr pn xe) W) (po : PassesOwn (model X.prog X.w) X.A X.env xe) => okSs b (X := X.tr pn xe) (W := W) ⟨⟨o.o.m, o.o.hN, o.o.nd, o.o.hsc, o.o.calm, o.o.fn, tk⟩, po, o.bk, o.exc, o.stk, o.frm, o.noex⟩ body h11
      rw [est]
      exact ps_tryOk o hb (by simpa using h1) h2 (by simpa using h3) h4 h5 h6 (by simpa using h7) h8 h9 h10
  | .unk, X, W, o, st, h => ⟨fun pins s σ H D I q => by
    obtain ⟨B, F, e, r, q⟩ := q
    exact q.elim⟩
theorem okSs : ∀ (ss : Sxs) {X : Cx} {W : WX} (o : XSt X cf sc G Γ xo W) (sts : List Stmt), ckSs cf sc ss sts = true → PSs X sts (tSs X.K xo X.mg G Γ W ss)
  | .nil, X, W, o, [], _ => pss_nil.imp fun Dn σ H q => sem_snil q
  | .cons s ss, X, W, o, t :: ts, h => by
    have h : (ckS cf sc s t && ckSs cf sc ss ts) = true := h
    rw [Bool.and_eq_true] at h
    exact (pss_cons (okS s o t h.1) (okSs ss o ts h.2)).imp fun Dn σ H q => sem_scons q
  | .nil, X, W, o, _ :: _, h => nomatch h
  | .cons _ _, X, W, o, [], h => nomatch h
end
end
end DL


set_option Elab.async false
set_option linter.all false
set_option maxRecDepth 100000
set_option maxHeartbeats 8000000
/-! DL21: a def keeps its promise. -/
namespace DL
open PySem PySem.Spec PyProof.Rows L2

section
variable {K : PySem.W.Frag} {xo : XO} {mg : Str → Option Value} {G : List D} {Γ : List Fn} {F H : Hp}
theorem ann_fn {k : ScopeKind} (h : k = .function) : (if k.isAnnotationScope then ScopeKind.function else k) = .function := by
  subst h
  rfl
theorem start_get {N : List Str} {vs : List V} {i : Nat} {v : V} (h : vs[i]? = some v) : (start N vs)[i]? = some (some v) := by
  have hi := (List.getElem?_eq_some_iff.mp h).1
  unfold L2.start
  rw [List.getElem?_append_left (by rw [List.length_map]; exact hi), List.getElem?_map, h]
  rfl
theorem start_len {N : List Str} {vs : List V} (h : vs.length ≤ N.length) : (start N vs).length = N.length := by
  unfold L2.start
  rw [List.length_append, List.length_map, List.length_replicate]
  omega
/-- the slots at a def's entry -/
def env0 (own : Bool) (n : Nat) (o xs : List D) : Env := ((if own then [Slot.own true o] else []) ++ xs.map Slot.val) ++ List.replicate (n - ((if own then [Slot.own true o] else []) ++ xs.map Slot.val).length) .un
def finF (own : Bool) (e : Env) (f : List D → FR) : FR := if own then (match (e[0]? : Option Slot) with | some (Slot.own true o') => f o' | _ => FR.bad) else f []
theorem evF_eq (own : Bool) (n : Nat) (b : Sxs) (o xs : List D) : evF G Γ own n b o xs = (match evSs G Γ b (env0 own n o xs) with
  | .nx e => finF own e (.ret (.d .none))
  | .rt v e => finF own e (.ret v)
  | .exn c ps e => finF own e (.exn c ps)
  | _ => .bad) := rfl
theorem un_rep {n i : Nat} {s : Slot} (h : (List.replicate n Slot.un)[i]? = some s) : s = .un := by
  rw [List.getElem?_replicate] at h
  split at h
  · exact (Option.some.inj h).symm
  · cases h
/-- plain data at the entry -/
theorem entry0 {N : List Str} {vs : List V} {ds : List D} (tb : LamX.Tabs xo.T H) (s : Same F H) (dv : DenAll K xo F vs ds) (hl : vs.length ≤ N.length) : Rel K xo ⟨H, F, fun _ => False, none⟩ F (start N vs) H (env0 false N.length [] ds) := by
  have hv := dv.length
  have ee : env0 false N.length [] ds = ds.map Slot.val ++ List.replicate (N.length - ds.length) .un := by
    unfold env0
    simp
  have get : ∀ (i : Nat) (s : Slot), (env0 false N.length [] ds)[i]? = some s → s = .un ∨ ∃ d, ds[i]? = some d ∧ s = .val d := fun i s h => by
    rw [ee] at h
    by_cases hi : i < ds.length
    · rw [List.getElem?_append_left (by rw [List.length_map]; exact hi), List.getElem?_map] at h
      cases q : ds[i]? with
      | none => rw [q] at h; cases h
      | some d => rw [q] at h; exact .inr ⟨d, rfl, (Option.some.inj h).symm⟩
    · rw [List.getElem?_append_right (by rw [List.length_map]; omega)] at h
      exact .inl (un_rep h)
  refine ⟨s, Same.refl _, fun a h => .inl h, (fun a z => nomatch (z : (none : Option Addr) = some a)), fun a o h _ _ => h, fun a ps h => ⟨ps, h⟩, tb, (fun a (z : False) => z.elim), ?_, fun i d h => ?_, fun i p es h => ?_, fun i j a p q es fs h => ?_⟩
  · rw [start_len hl, ee, List.length_append, List.length_map, List.length_replicate]
    omega
  · rcases get i _ h with z | ⟨d', h1, h2⟩
    · cases z
    · injection h2 with h2
      subst h2
      obtain ⟨v, g1, g2⟩ := dv.get h1
      exact ⟨v, start_get g1, g2⟩
  · rcases get i _ h with z | ⟨d', h1, h2⟩
    · cases z
    · cases h2
  · rcases get i _ h with z | ⟨d', h1, h2⟩
    · cases z
    · cases h2
/-- a list handed in as one's own -/
theorem entry1 {N : List Str} {a : Addr} {ws : List V} {o : List D} {vs : List V} {ds : List D} (tb : LamX.Tabs xo.T H) (s : Same F H) (ha : H a = some (.lst ws)) (hF : F a = none) (dw : DenAll K xo F ws o) (dv : DenAll K xo F vs ds) (hl : vs.length + 1 ≤ N.length) :
    Rel K xo ⟨H, F, fun b => b = a, some a⟩ F (start N (.ref a :: vs)) H (env0 true N.length o ds) := by
  have hv := dv.length
  have ee : env0 true N.length o ds = (Slot.own true o :: ds.map Slot.val) ++ List.replicate (N.length - (ds.length + 1)) .un := by
    unfold env0
    simp
  have get : ∀ (i : Nat) (s : Slot), (env0 true N.length o ds)[i]? = some s → s = .un ∨ (i = 0 ∧ s = .own true o) ∨ ∃ d j, i = j + 1 ∧ ds[j]? = some d ∧ s = .val d := fun i s h => by
    rw [ee] at h
    cases i with
    | zero => exact .inr (.inl ⟨rfl, (Option.some.inj (show some _ = some _ from h)).symm⟩)
    | succ i =>
      have h : (ds.map Slot.val ++ List.replicate (N.length - (ds.length + 1)) .un)[i]? = some s := h
      by_cases hi : i < ds.length
      · rw [List.getElem?_append_left (by rw [List.length_map]; exact hi), List.getElem?_map] at h
        cases q : ds[i]? with
        | none => rw [q] at h; cases h
        | some d => rw [q] at h; exact .inr (.inr ⟨d, i, rfl, q, (Option.some.inj h).symm⟩)
      · rw [List.getElem?_append_right (by rw [List.length_map]; omega)] at h
        exact .inl (un_rep h)
  refine ⟨s, Same.refl _, fun a h => .inl h, fun b z => ?_, fun b u h z _ => h, fun b ps h => ⟨ps, h⟩, tb, fun b z => ?_, ?_, fun i d h => ?_, fun i p es h => ?_, fun i j b p q es fs h h2 _ _ => ?_⟩
  · injection z with z
    subst z
    show H a ≠ none
    rw [ha]
    exact fun z => nomatch z
  · have z : b = a := z
    subst z
    rw [ha]
    exact fun z => nomatch z
  · rw [start_len (by rw [List.length_cons]; exact hl), ee, List.length_append, List.length_cons, List.length_map, List.length_replicate]
    omega
  · rcases get i _ h with z | ⟨_, z⟩ | ⟨d', j, hj, h1, h2⟩
    · cases z
    · cases z
    · injection h2 with h2
      subst h2 hj
      obtain ⟨v, g1, g2⟩ := dv.get h1
      exact ⟨v, start_get (vs := .ref a :: vs) (i := j + 1) (by simpa using g1), g2⟩
  · rcases get i _ h with z | ⟨hi, z⟩ | ⟨d', j, hj, h1, h2⟩
    · cases z
    · injection z with z1 z2
      subst z1 z2 hi
      exact ⟨a, ws, start_get (vs := .ref a :: vs) (i := 0) rfl, ha, hF, dw, .inl rfl, fun _ => rfl, fun _ => rfl⟩
    · cases h2
  · rcases get i _ h with z | ⟨hi, _⟩ | ⟨d', j, hj, h1, z⟩
    · cases z
    · rcases get j _ h2 with y | ⟨hj, _⟩ | ⟨d', j, hj, h1, y⟩
      · cases y
      · rw [hi, hj]
      · cases y
    · cases z
theorem fin0 {σ' : L2.St} {H' F' : Hp} {e : Env} (r : Rel K xo ⟨H, F, fun _ => False, none⟩ F' σ' H' e) : Fin' K xo F H none [] F' H' := by
  refine ⟨r.sub0, r.sub, fun a h => ?_, fun a o h _ t => r.keep a o h (fun z => z) t, r.tbk, r.tabs, fun a z => nomatch z⟩
  rcases r.new a h with z | z | ⟨z, _⟩
  · exact .inl z
  · exact .inr z
  · exact z.elim
theorem fin1 {a : Addr} {σ' : L2.St} {H' F' : Hp} {e : Env} {o' : List D} (r : Rel K xo ⟨H, F, fun b => b = a, some a⟩ F' σ' H' e) (h0 : e[0]? = some (.own true o')) : Fin' K xo F H (some a) o' F' H' := by
  refine ⟨r.sub0, r.sub, fun b h => ?_, fun b o h ne t => r.keep b o h (fun z => ne (by rw [show b = a from z])) t, r.tbk, r.tabs, fun b z => ?_⟩
  · rcases r.new b h with z | z | ⟨z, y⟩
    · exact .inl z
    · exact .inr z
    · exact absurd (by rw [show b = a from z]) y
  · injection z with z
    subst z
    obtain ⟨a', ws, g1, g2, g3, g4, g5, g6⟩ := r.own 0 true o' h0
    have e2 : some a = some a' := g6.mp rfl
    injection e2 with e2
    subst e2
    exact ⟨ws, g2, g3, g4⟩
/-- a body, and behind it the def's end -/
theorem post_def0 {Q : VK} {E : XK} {n : Nat} {b : Sxs} {ds : List D} (h : PostF K xo mg F H none (evF G Γ false n b [] ds) Q E) :
    PostS K xo mg (fun cls d _ H => E cls d H) ⟨H, F, fun _ => False, none⟩ F (evSs G Γ b (env0 false n [] ds)) { nx := fun _ H' => Q .non H', rt := Q } := by
  rw [evF_eq] at h
  cases q : evSs G Γ b (env0 false n [] ds) with
  | nx e => rw [q] at h; exact fun σ' H' F' r s => h .non H' F' (fin0 r) .non
  | bk e => rw [q] at h; exact h.elim
  | ct e => rw [q] at h; exact h.elim
  | bad => rw [q] at h; exact h
  | exn c ps e => rw [q] at h; exact fun cls dx σ' H' F' r s x => h cls dx H' F' (fin0 r) x
  | rt v e =>
    rw [q] at h
    cases v with
    | d d => exact fun v σ' H' F' r s x => h v H' F' (fin0 r) x
    | fr xs => exact fun p vs σ' H' F' r s h1 h2 h3 h4 h5 => h p vs H' F' (fin0 r) h1 h2 h3 (h4.elim (fun z => z) fun z => z.1.elim)
theorem post_def1 {Q : VK} {E : XK} {n : Nat} {b : Sxs} {a : Addr} {o ds : List D} (h : PostF K xo mg F H (some a) (evF G Γ true n b o ds) Q E) :
    PostS K xo mg (fun cls d _ H => E cls d H) ⟨H, F, fun b => b = a, some a⟩ F (evSs G Γ b (env0 true n o ds)) { nx := fun _ H' => Q .non H', rt := Q } := by
  rw [evF_eq] at h
  have fe : ∀ (e : Env) (f : List D → FR), PostF K xo mg F H (some a) (finF true e f) Q E → ∃ o', e[0]? = some (.own true o') ∧ PostF K xo mg F H (some a) (f o') Q E := fun e f z => by
    have z : PostF K xo mg F H (some a) (match (e[0]? : Option Slot) with | some (Slot.own true o') => f o' | _ => FR.bad) Q E := z
    cases q : (e[0]? : Option Slot) with
    | none => rw [q] at z; exact z.elim
    | some s =>
      rw [q] at z
      cases s with
      | un => exact z.elim
      | val _ => exact z.elim
      | own p o' =>
        cases p with
        | false => exact z.elim
        | true => exact ⟨o', rfl, z⟩
  cases q : evSs G Γ b (env0 true n o ds) with
  | nx e =>
    rw [q] at h
    obtain ⟨o', h0, h⟩ := fe e _ h
    exact fun σ' H' F' r s => h .non H' F' (fin1 r h0) .non
  | bk e => rw [q] at h; exact h.elim
  | ct e => rw [q] at h; exact h.elim
  | bad => rw [q] at h; exact h
  | exn c ps e =>
    rw [q] at h
    obtain ⟨o', h0, h⟩ := fe e _ h
    exact fun cls dx σ' H' F' r s x => h cls dx H' F' (fin1 r h0) x
  | rt v e =>
    rw [q] at h
    obtain ⟨o', h0, h⟩ := fe e _ h
    cases v with
    | d d => exact fun v σ' H' F' r s x => h v H' F' (fin1 r h0) x
    | fr xs => exact fun p vs σ' H' F' r s h1 h2 h3 h4 h5 => h p vs H' F' (fin1 r h0) h1 h2 h3 (h4.elim (fun z => z) fun z => absurd (by rw [show p = a from z.1]) z.2)
end
section
variable {P : Program} {w : World} {K : PySem.W.Frag} {mg : Str → Option Value} {base : Heap} {xo : XO} {G : List D} {Γ : List Fn} {cf : Cf}
/-- the facts that a def's body leans on -/
structure Facts (P : Program) (w : World) (K : PySem.W.Frag) (mg : Str → Option Value) (base : Heap) (k : Nat) (cf : Cf) (G : List D) (Γ : List Fn) (xo : XO) : Prop where
  glb : ∀ (i : Nat) (x : Str) (d : D), cf.gx[i]? = some x → G[i]? = some d → ∃ v u, mg x = some u ∧ RelV v u ∧ ∀ F, Den K xo F v d
  fun_ : ∀ (i : Nat) (x : Str), cf.fx[i]? = some x → ∃ f, Γ[i]? = some f ∧ CalleeN P w K mg base xo k x f (kwOf cf i)
  blt : ∀ x ∈ bNames, mg x = none
  exf : ExF K mg
  xof : ∀ k o, exNames.contains k = true → (xo k none o ↔ ∃ C a, mg k = some (.ref C) ∧ o = ExP (.ref C) a)
  cxs : ∀ c ∈ cf.cx, (c = ("ValueError" : Str) ∧ mg c = none) ∨ ∃ C, mg c = some (.ref C) ∧ exNames.contains c = true
  exc : ∀ x ∈ cf.ex, ∃ C, mg x = some (.ref C) ∧ PySem.W.excIn K C [.type "ValueError", .type "Exception", .type "BaseException", .type "object"] "ValueError.__new__" = true ∧ PySem.W.keepIn K (.ref C) = true ∧ PySem.W.subIn K (.ref C) (.type "BaseException") = some true ∧ PySem.W.typeIn K (.ref C) = some (.type "type")
theorem def_ok {x : Str} {params : Arguments} {body : List Stmt} {sc : Scope} {f : Addr} {fd : FuncData} {ps : List Str} {k : Nat} {own : Bool} {b : Sxs} {pd : List V} {kw : List (Str × V)} (Fd : FunD K x x params body sc pd kw f fd) (S : FnScope cf.N ps sc) (hp : ps.length ≤ cf.N.length)
    (hc : ckSs cf sc b body = true) (fx : Facts P w K mg base k cf G Γ xo) : FnOk P w K mg base (L2.CX P w) (k + 1) f fd ps (spFn K xo mg ⟨x, own, ps.length, evF G Γ own cf.N.length b⟩) := by
  refine Fd.ok S (fun vs H Q E h => h.1) fun cdv A outer s H vs Q E hr h => ?_
  have o : XSt (cxOf (L2.CX P w) P w K mg base cf.N x sc f cdv A outer s H E) cf sc G Γ xo (fun cls d _ H => E cls d H) := by
    refine ⟨⟨⟨?_, fx.glb, fun i y hy => ?_, fx.blt, fx.exf, fx.xof, fx.cxs⟩, rfl, S.nd, rfl, rfl, fun _ _ => .inl rfl, takes_of rfl rfl rfl rfl⟩, passes_of rfl, ann_fn S.kind, fx.exc, rfl, rfl, rfl⟩
    · have := hr.un
      show (A.deeper _).units + 65 < cLine
      omega
    · obtain ⟨g, h1, hc⟩ := fx.fun_ i y hy
      exact ⟨g, h1, k, hc, hr⟩
  refine ⟨_, okSs b o body hc, ?_⟩
  obtain ⟨hl, tb, F, sF, h⟩ := h
  have hl : vs.length = ps.length := hl
  rcases h with ⟨ho, ds, dv, hp2⟩ | ⟨ho, a, us, ws, oo, ds, ev, ha, hF, dw, dv, hp2⟩
  · have ho : own = false := ho
    subst ho
    exact ⟨_, F, _, entry0 tb sF dv (by omega), post_def0 hp2⟩
  · have ho : own = true := ho
    subst ho ev
    exact ⟨_, F, _, entry1 tb sF ha hF dw dv (by have e : us.length + 1 = ps.length := hl; omega), post_def1 hp2⟩
end
end DL


set_option Elab.async false
set_option linter.all false
set_option maxRecDepth 100000
set_option maxHeartbeats 8000000
/-! DL22: the defs of a program, one resting on others. -/
namespace DL
open PySem PySem.Spec PyProof.Rows L2

section
variable {P : Program} {w : World} {K : PySem.W.Frag} {mg : Str → Option Value} {base : Heap} {xo : XO} {T : List (Addr × Str)}
/-- a def stands and keeps its promise -/
def Ok (P : Program) (w : World) (K : PySem.W.Frag) (mg : Str → Option Value) (base : Heap) (xo : XO) (k : Nat) (x : Str) (f : Fn) : Prop := Callee P w K mg base xo k x f
theorem Ok.up {j k : Nat} {x : Str} {f : Fn} (o : Ok P w K mg base xo j x f) (h : j ≤ k) : Ok P w K mg base xo k x f := by
  obtain ⟨a, fd, ps, dvs, ds, sp0, h1, h2⟩ := o
  exact ⟨a, fd, ps, dvs, ds, sp0, h1.mono h, h2⟩
/-- a def of which the last arguments are its defaults -/
def capFn (f : Fn) (df : List D) : Fn := ⟨f.name, f.own, f.np - df.length, fun o xs => f.run o (xs ++ df)⟩
theorem cap_sp {f : Fn} {df : List D} {dvs : List V} (ho : f.own = false) (hn : df.length ≤ f.np) (dv : ∀ F, DenAll K xo F dvs df) (vs : List V) (H : Hp) (Q : VK) (E : XK) (h : spFn K xo mg (capFn f df) vs H Q E) : spFn K xo mg f (vs ++ dvs) H Q E := by
  obtain ⟨hl, tb, F, s, h⟩ := h
  have hl : vs.length = f.np - df.length := hl
  have l2 := (dv F).length
  refine ⟨by rw [List.length_append, hl, l2]; omega, tb, F, s, ?_⟩
  rcases h with ⟨_, ds, dd, hp⟩ | ⟨z, _⟩
  · exact .inl ⟨ho, ds ++ df, dd.append (dv F), hp⟩
  · have z : f.own = true := z
    rw [ho] at z
    cases z
/-- .. its last argument handed in by its name -/
def OkN (P : Program) (w : World) (K : PySem.W.Frag) (mg : Str → Option Value) (base : Heap) (xo : XO) (k : Nat) (nm : Str) (x : Str) (f : Fn) : Prop := KCallee P w K mg base xo k nm x f
theorem OkN.up {j k : Nat} {nm x : Str} {f : Fn} (o : OkN P w K mg base xo j nm x f) (h : j ≤ k) : OkN P w K mg base xo k nm x f := by
  obtain ⟨a, fd, ps, m, g, sp0, h1, h2⟩ := o
  exact ⟨a, fd, ps, m, g, sp0, h1.mono h, h2⟩
def FunAll (P : Program) (w : World) (K : PySem.W.Frag) (mg : Str → Option Value) (base : Heap) (xo : XO) (k : Nat) : List Str → List (Option Str) → List Fn → Prop
  | x :: xs, [], f :: fs => Ok P w K mg base xo k x f ∧ FunAll P w K mg base xo k xs [] fs
  | x :: xs, none :: ns, f :: fs => Ok P w K mg base xo k x f ∧ FunAll P w K mg base xo k xs ns fs
  | x :: xs, some nm :: ns, f :: fs => OkN P w K mg base xo k nm x f ∧ FunAll P w K mg base xo k xs ns fs
  | [], _, [] => True
  | _, _, _ => False
theorem FunAll.at {k : Nat} : ∀ {xs : List Str} {ns : List (Option Str)} {fs : List Fn}, FunAll P w K mg base xo k xs ns fs → ∀ (i : Nat) (x : Str), xs[i]? = some x → ∃ f, fs[i]? = some f ∧ CalleeN P w K mg base xo k x f ((ns[i]?).join)
  | x :: xs, [], f :: fs, h, 0, y, e => by
    have e' := Option.some.inj (show some x = some y from e)
    subst e'
    exact ⟨f, rfl, h.1⟩
  | x :: xs, none :: ns, f :: fs, h, 0, y, e => by
    have e' := Option.some.inj (show some x = some y from e)
    subst e'
    exact ⟨f, rfl, h.1⟩
  | x :: xs, some nm :: ns, f :: fs, h, 0, y, e => by
    have e' := Option.some.inj (show some x = some y from e)
    subst e'
    exact ⟨f, rfl, h.1⟩
  | x :: xs, [], f :: fs, h, i + 1, y, e => by
    obtain ⟨g, h1, h2⟩ := FunAll.at (ns := []) h.2 i y (by simpa using e)
    exact ⟨g, by simpa using h1, by simpa using h2⟩
  | x :: xs, none :: ns, f :: fs, h, i + 1, y, e => by
    obtain ⟨g, h1, h2⟩ := FunAll.at h.2 i y (by simpa using e)
    exact ⟨g, by simpa using h1, by simpa using h2⟩
  | x :: xs, some nm :: ns, f :: fs, h, i + 1, y, e => by
    obtain ⟨g, h1, h2⟩ := FunAll.at h.2 i y (by simpa using e)
    exact ⟨g, by simpa using h1, by simpa using h2⟩
  | [], _, _, _, i, y, e => by simp at e
  | _ :: _, [], [], h, _, _, _ => h.elim
  | _ :: _, none :: _, [], h, _, _, _ => h.elim
  | _ :: _, some _ :: _, [], h, _, _, _ => h.elim
/-- the module's ints -/
def GlbAll (mg : Str → Option Value) : List Str → List D → Prop
  | x :: xs, .int i :: ds => (∃ t, mg x = some (.int i t)) ∧ GlbAll mg xs ds
  | [], [] => True
  | _, _ => False
theorem GlbAll.at : ∀ {xs : List Str} {ds : List D}, GlbAll mg xs ds → ∀ (i : Nat) (x : Str) (d : D), xs[i]? = some x → ds[i]? = some d → ∃ v u, mg x = some u ∧ RelV v u ∧ ∀ F, Den K xo F v d
  | x :: xs, .int n :: ds, h, 0, y, d, e, e2 => by
    have e' := Option.some.inj (show some x = some y from e)
    have e2' := Option.some.inj (show some (.int n) = some d from e2)
    subst e' e2'
    obtain ⟨t, ht⟩ := h.1
    exact ⟨.int n, _, ht, ⟨t, rfl⟩, fun _ => .int n⟩
  | x :: xs, .int n :: ds, h, i + 1, y, d, e, e2 => GlbAll.at h.2 i y d (by simpa using e) (by simpa using e2)
  | [], _, _, i, y, d, e, _ => by simp at e
def ExcAll (K : PySem.W.Frag) (mg : Str → Option Value) : List Str → Prop
  | x :: xs => (∃ C, mg x = some (.ref C) ∧ PySem.W.excIn K C [.type "ValueError", .type "Exception", .type "BaseException", .type "object"] "ValueError.__new__" = true ∧ PySem.W.keepIn K (.ref C) = true ∧ PySem.W.subIn K (.ref C) (.type "BaseException") = some true ∧ PySem.W.typeIn K (.ref C) = some (.type "type")) ∧ ExcAll K mg xs
  | [] => True
theorem ExcAll.at : ∀ {xs : List Str}, ExcAll K mg xs → ∀ x ∈ xs, ∃ C, mg x = some (.ref C) ∧ PySem.W.excIn K C [.type "ValueError", .type "Exception", .type "BaseException", .type "object"] "ValueError.__new__" = true ∧ PySem.W.keepIn K (.ref C) = true ∧ PySem.W.subIn K (.ref C) (.type "BaseException") = some true ∧ PySem.W.typeIn K (.ref C) = some (.type "type")
  | [], _, x, hx => by simp at hx
  | y :: ys, h, x, hx => by
    rcases List.mem_cons.mp hx with e | hx
    · subst e; exact h.1
    · exact ExcAll.at h.2 x hx
/-- the classes that are asked for -/
def CxAll (mg : Str → Option Value) : List Str → Prop
  | x :: xs => ((x = ("ValueError" : Str) ∧ mg x = none) ∨ ∃ C, mg x = some (.ref C) ∧ exNames.contains x = true) ∧ CxAll mg xs
  | [] => True
theorem CxAll.at : ∀ {xs : List Str}, CxAll mg xs → ∀ x ∈ xs, (x = ("ValueError" : Str) ∧ mg x = none) ∨ ∃ C, mg x = some (.ref C) ∧ exNames.contains x = true
  | [], _, x, hx => by simp at hx
  | y :: ys, h, x, hx => by
    rcases List.mem_cons.mp hx with e | hx
    · subst e; exact h.1
    · exact CxAll.at h.2 x hx
/-- how an exception is held -/
def xoE (mg : Str → Option Value) (T : List (Addr × Str)) : XO := ⟨fun k dx o => dx = none ∧ exNames.contains k = true ∧ ∃ C a, mg k = some (.ref C) ∧ o = ExP (.ref C) a, T⟩
theorem xoE_of {T : List (Addr × Str)} (k : Str) (o : HO) (h : exNames.contains k = true) : xoE mg T k none o ↔ ∃ C a, mg k = some (.ref C) ∧ o = ExP (.ref C) a := ⟨fun z => z.2.2, fun z => ⟨rfl, h, z⟩⟩
theorem ecB_ok {D : Addr} (h : ecB K D = true) : ExcC K D := by
  unfold ecB at h
  simp only [Bool.and_eq_true, decide_eq_true_eq] at h
  obtain ⟨h1, h2, h3, h4, h5, h6, h7, h8⟩ := h
  exact ⟨h1, h2, h3, h4, h5, h6, h7, h8⟩
theorem exB1_ok {k : Str} {C : Addr} (X : K.In base) (G : base.Ns mainGlobals mg) (h : exB1 K k = true) (hm : mg k = some (.ref C)) : ecB K C = true ∧ PySem.W.kitOne K (.ref C) (.type "ValueError") = some true ∧ PySem.W.kitOne K (.type "NoneType") (.ref C) = some false ∧ exNames.all (exB2 K k C) = true := by
  unfold exB1 at h
  split at h
  · rename_i q
    rw [PySem.W.mg_none_of X G q] at hm
    cases hm
  · rename_i C' q
    rw [PySem.W.mg_of X G q] at hm
    have hm := Option.some.inj hm
    have hm := Value.ref.inj hm
    subst hm
    simp only [Bool.and_eq_true, decide_eq_true_eq] at h
    exact h
  · cases h
theorem exB2_ok {k c : Str} {C D : Addr} (X : K.In base) (G : base.Ns mainGlobals mg) (h : exB2 K k C c = true) (hm : mg c = some (.ref D)) : PySem.W.kitOne K (.ref C) (.ref D) = some (exSub k c) ∧ PySem.W.exmOne K (.ref C) (.ref D) = some (exSub k c) := by
  unfold exB2 at h
  split at h
  · rename_i q
    rw [PySem.W.mg_none_of X G q] at hm
    cases hm
  · rename_i C' q
    rw [PySem.W.mg_of X G q] at hm
    have hm := Option.some.inj hm
    have hm := Value.ref.inj hm
    subst hm
    simp only [Bool.and_eq_true, decide_eq_true_eq] at h
    exact h
  · cases h
theorem exB_ok (X : K.In base) (G : base.Ns mainGlobals mg) (h : exB K = true) : ExF K mg := by
  have h1 : ∀ k, exNames.contains k = true → exB1 K k = true := fun k hk => List.all_eq_true.mp h k (by simpa using hk)
  refine ⟨fun k C hk hm => ?_, fun k c C D hk hc hm hm2 => ?_⟩
  · obtain ⟨a, b, c, _⟩ := exB1_ok X G (h1 k hk) hm
    exact ⟨ecB_ok a, b, c⟩
  · obtain ⟨_, _, _, q⟩ := exB1_ok X G (h1 k hk) hm
    exact exB2_ok X G (List.all_eq_true.mp q c (by simpa using hc)) hm2
/-- the names' state, at a law's head -/
structure Wd (fa : List He.Fa) (fn : List He.DefD) (K : PySem.W.Frag) (mg : Str → Option Value) (base : Heap) : Prop where
  X : K.In base
  G : base.Ns mainGlobals mg
  c : He.SaysD fa fn K
  e : exB K = true
theorem Wd.exc {fa : List He.Fa} {fn : List He.DefD} (d : Wd fa fn K mg base) {x : Str} (i j : Nat) (h : fa[i]? = some (.exc x) := by rfl) (h2 : fa[j]? = some (.glo x) := by rfl) :
    ∃ C, mg x = some (.ref C) ∧ PySem.W.excIn K C [.type "ValueError", .type "Exception", .type "BaseException", .type "object"] "ValueError.__new__" = true ∧ PySem.W.keepIn K (.ref C) = true ∧ PySem.W.subIn K (.ref C) (.type "BaseException") = some true ∧ PySem.W.typeIn K (.ref C) = some (.type "type") := by
  obtain ⟨h3, h4, h5, h6⟩ := He.exc_ok (d.c.fact i h)
  exact ⟨_, He.glo_ok d.X d.G (d.c.fact j h2), h3, h4, h5, h6⟩
theorem Wd.int {fa : List He.Fa} {fn : List He.DefD} (d : Wd fa fn K mg base) {x : Str} {n : Int} (i : Nat) (h : fa[i]? = some (.int x n) := by rfl) : ∃ t, mg x = some (.int n t) := He.int_ok d.X d.G (d.c.fact i h)
/-- the first facts are those of the built-in names -/
theorem Wd.blt {rest : List He.Fa} {fn : List He.DefD} (d : Wd (bNames.map He.Fa.free ++ rest) fn K mg base) : ∀ x ∈ bNames, mg x = none := fun x hx => by
  obtain ⟨i, hi, e⟩ := List.getElem_of_mem hx
  refine He.free_ok d.X d.G (d.c.fact i (f := .free x) ?_)
  rw [List.getElem?_append_left (by rw [List.length_map]; exact hi), List.getElem?_map, List.getElem?_eq_getElem hi, e]
  rfl
/-- a def of the table -/
theorem Wd.ok {rest : List He.Fa} {fn : List He.DefD} (d : Wd (bNames.map He.Fa.free ++ rest) fn K mg base) (i j : Nat) {x : Str} {params : Arguments} {body : List Stmt} {sc : Scope} {ps : List Str} {k : Nat} {own : Bool} {b : Sxs} {cf : Cf} {G : List D} {Γ : List Fn}
    (hd : fn[i]? = some ⟨(x, none), x, x, params, body, sc, [], []⟩) (hx : rest[j]? = some (.glo x))
    (hb : ∀ (kV doc pm : Value) (an : Option Addr) (cdv ct : Value) (us : List Value), us.length = ps.length → bindArgs (PySem.W.fnOf x x params body sc .none kV doc pm an cdv ct) ⟨us, []⟩ = pure (ps.zip us))
    (S : FnScope cf.N ps sc) (hp : ps.length ≤ cf.N.length) (hc : ckSs cf sc b body = true) (g : GlbAll mg cf.gx G) (fs : FunAll P w K mg base (xoE mg T) k cf.fx cf.kx Γ) (ex : ExcAll K mg cf.ex) (cx : CxAll mg cf.cx) : Ok P w K mg base (xoE mg T) (k + 1) x ⟨x, own, ps.length, evF G Γ own cf.N.length b⟩ := by
  obtain ⟨fd, F⟩ := d.c.def_ i hd
  have F : FunD K x x params body sc [] [] (He.fAd K (x, none)) fd := F
  have hm : mg x = some (.ref (He.ga K x)) := by
    refine He.glo_ok d.X d.G (d.c.fact (bNames.length + j) (f := .glo x) ?_)
    rw [List.getElem?_append_right (by rw [List.length_map]; omega), List.length_map, Nat.add_sub_cancel_left]
    exact hx
  exact ⟨_, fd, ps, [], [], _, def_ok F S hp hc ⟨g.at, fun i y hy => fs.at i y hy, d.blt, exB_ok d.X d.G d.e, xoE_of, cx.at, ex.at⟩, hm, F.kp, F.bindsN hb, .nil, fun vs H Q E q => by rw [List.append_nil]; exact q⟩
/-- .. its last argument handed in by its name -/
theorem Wd.okN {rest : List He.Fa} {fn : List He.DefD} (d : Wd (bNames.map He.Fa.free ++ rest) fn K mg base) (i j : Nat) {x : Str} {params : Arguments} {body : List Stmt} {sc : Scope} {ps : List Str} {k : Nat} {b : Sxs} {cf : Cf} {G : List D} {Γ : List Fn} {kwd : List (Str × He.Dv)} (nm : Str) (n : Nat)
    (hd : fn[i]? = some ⟨(x, none), x, x, params, body, sc, [], kwd⟩) (hx : rest[j]? = some (.glo x)) (hn : n + 1 = ps.length)
    (hb : ∀ (kV doc pm : Value) (an : Option Addr) (cdv ct : Value) (us : List Value) (u : Value), us.length = n → bindArgs (PySem.W.fnOf x x params body sc .none kV doc pm an cdv ct) ⟨us, [(nm, u)]⟩ = pure (ps.zip (us ++ [u])))
    (S : FnScope cf.N ps sc) (hp : ps.length ≤ cf.N.length) (hc : ckSs cf sc b body = true) (g : GlbAll mg cf.gx G) (fs : FunAll P w K mg base (xoE mg T) k cf.fx cf.kx Γ) (ex : ExcAll K mg cf.ex) (cx : CxAll mg cf.cx) :
    OkN P w K mg base (xoE mg T) (k + 1) nm x ⟨x, false, ps.length, evF G Γ false cf.N.length b⟩ := by
  obtain ⟨fd, F⟩ := d.c.def_ i hd
  have F : FunD K x x params body sc [] (kwd.map fun q => (q.1, q.2.v K)) (He.fAd K (x, none)) fd := F
  have hm : mg x = some (.ref (He.ga K x)) := by
    refine He.glo_ok d.X d.G (d.c.fact (bNames.length + j) (f := .glo x) ?_)
    rw [List.getElem?_append_right (by rw [List.length_map]; omega), List.length_map, Nat.add_sub_cancel_left]
    exact hx
  have hbi : KBn K fd ps n [nm] (fun us ws => us ++ ws) (fun vs zs => vs ++ zs) := by
    obtain ⟨oc, od, dV, kV, doc, pm, an, cdv, ct, osl, rfl, lk, hcd, hD, hK⟩ := F.ex
    rcases hD with ⟨_, rfl⟩ | ⟨e, _⟩
    · refine ⟨fun s us ws X l1 l2 => ?_, fun r1 r2 => r1.append r2⟩
      match ws, l2 with
      | [u], _ => exact .of_eq (hb kV doc pm an cdv ct us u l1)
    · exact absurd rfl e
  exact ⟨_, fd, ps, n, _, _, def_ok F S hp hc ⟨g.at, fun i y hy => fs.at i y hy, d.blt, exB_ok d.X d.G d.e, xoE_of, cx.at, ex.at⟩, hm, F.kp, hbi, hn, fun vs H Q E q => q⟩
/-- .. with defaults of keywords alone -/
theorem Wd.okK {rest : List He.Fa} {fn : List He.DefD} (d : Wd (bNames.map He.Fa.free ++ rest) fn K mg base) (i j : Nat) {x : Str} {params : Arguments} {body : List Stmt} {sc : Scope} {ps : List Str} {k : Nat} {b : Sxs} {cf : Cf} {G : List D} {Γ : List Fn} {kwd : List (Str × He.Dv)} {df : List D}
    (hd : fn[i]? = some ⟨(x, none), x, x, params, body, sc, [], kwd⟩) (hx : rest[j]? = some (.glo x)) (hk : kwd ≠ []) (n : Nat) (hn : n + kwd.length = ps.length) (hl : df.length ≤ ps.length) (hdf : ∀ F, DenAll K (xoE mg T) F (kwd.map fun q => q.2.v K) df)
    (hb : ∀ (D : Addr) (doc pm : Value) (an : Option Addr) (cdv ct : Value) (us ks : List Value), us.length = n → ks.length = kwd.length → KwChain D ((kwd.map (·.1)).zip ks) (bindArgs (PySem.W.fnOf x x params body sc .none (.ref D) doc pm an cdv ct) ⟨us, []⟩) (ps.zip (us ++ ks)))
    (S : FnScope cf.N ps sc) (hp : ps.length ≤ cf.N.length) (hc : ckSs cf sc b body = true) (g : GlbAll mg cf.gx G) (fs : FunAll P w K mg base (xoE mg T) k cf.fx cf.kx Γ) (ex : ExcAll K mg cf.ex) (cx : CxAll mg cf.cx) :
    Ok P w K mg base (xoE mg T) (k + 1) x (capFn ⟨x, false, ps.length, evF G Γ false cf.N.length b⟩ df) := by
  obtain ⟨fd, F⟩ := d.c.def_ i hd
  have F : FunD K x x params body sc [] (kwd.map fun q => (q.1, q.2.v K)) (He.fAd K (x, none)) fd := F
  have hm : mg x = some (.ref (He.ga K x)) := by
    refine He.glo_ok d.X d.G (d.c.fact (bNames.length + j) (f := .glo x) ?_)
    rw [List.getElem?_append_right (by rw [List.length_map]; omega), List.length_map, Nat.add_sub_cancel_left]
    exact hx
  obtain ⟨ds, hv, hbi⟩ := F.binds0 (ps := ps) n (by
    intro z
    cases kwd with
    | nil => exact hk rfl
    | cons _ _ => cases z) (by rw [List.length_map]; exact hn) fun D doc pm an cdv ct us ks hu hks => by
      have := hb D doc pm an cdv ct us ks hu (by rw [List.length_map] at hks; exact hks)
      rw [List.map_map]
      exact this
  rw [List.map_map] at hv
  exact ⟨_, fd, ps, _, ds, _, def_ok F S hp hc ⟨g.at, fun i y hy => fs.at i y hy, d.blt, exB_ok d.X d.G d.e, xoE_of, cx.at, ex.at⟩, hm, F.kp, hbi, hv, cap_sp rfl hl hdf⟩
end
/-- where nothing is let out -/
theorem FnQuiet {P : Program} {w : World} {K : PySem.W.Frag} {mg : Str → Option Value} {base : Heap} {k : Nat} {f : Addr} {fd : FuncData} {ps : List Str} {sp : Sp} (F : FnOk P w K mg base (L2.CX P w) k f fd ps sp) :
    FnOk P w K mg base CX0 k f fd ps (fun vs H Q _ => sp vs H Q fun _ _ _ => False) :=
  ⟨fun vs H Q E h => F.len vs H Q _ h, fun A outer s H args us vs Q E hr he hb hv hs => codeAny_mono (F.run A outer s H args us vs Q (fun _ _ _ => False) hr he hb hv hs) fun r s' hq => by
    cases r with
    | error e =>
      obtain ⟨_, _, _, _, _, _, _, _, _, _, _, _, z⟩ := hq
      exact z.elim
    | ok fl =>
      cases fl with
      | ret u => exact hq
      | _ => exact False.elim hq⟩
/-- the heap but for the tables -/
def noTbl (H : Hp) : Hp := fun a => match H a with
  | some (.tbl _) => none
  | o => o
theorem noTbl_at {H : Hp} {a : Addr} {u : HO} (h : H a = some u) (n : ∀ ps, u ≠ .tbl ps) : noTbl H a = some u := by
  unfold noTbl
  rw [h]
  cases u <;> first | rfl | exact absurd rfl (n _)
theorem noTbl_sub (H : Hp) : Same (noTbl H) H := fun a u h => by
  unfold noTbl at h
  split at h
  · cases h
  · exact h
theorem noTbl_seq {K : PySem.W.Frag} {H : Hp} {a : Addr} {xs : List V} (h : SqL K H a xs) : SqL K (noTbl H) a xs := by
  rcases h with h | h
  · left
    rcases h with h | ⟨o, h⟩
    · exact .inl (noTbl_at h (fun ps z => nomatch z))
    · exact .inr ⟨o, noTbl_at h (fun ps z => nomatch z)⟩
  · exact .inr h
theorem law_sp {K : PySem.W.Frag} {mg : Str → Option Value} {xo : XO} {f : Fn} (hn : f.np = 1) (ho : f.own = false) {n : Nat} (h : ∀ ns : List Int, ns.length ≤ n → ∃ o, f.run [] [.dict [(.none, .list (ns.map PyData.int))]] = .ret (.d (.bool true)) o)
    (H : Hp) (tb : LamX.Tabs xo.T H) (a : Addr) (ns : List Int) (hl : ns.length ≤ n) (hS : SqL K H a (ns.map V.int)) : spFn K xo mg f [.ref a] H (fun v _ => v = .bl true) fun _ _ _ => False := by
  obtain ⟨o, h⟩ := h ns hl
  refine ⟨hn.symm, tb, noTbl H, noTbl_sub H, .inl ⟨ho, [.dict [(.none, .list (ns.map PyData.int))]], .cons (.scr (noTbl_seq hS) (den_ints ns)) .nil, ?_⟩⟩
  rw [h]
  intro v H' F' _ dv
  cases dv
  rfl
end DL


set_option Elab.async false
set_option linter.all false
set_option maxRecDepth 100000
set_option maxHeartbeats 2000000
/-! DL23: what terms come to, by rewriting. -/
namespace DL
open PySem

def wR {α : Type} (r : R α) (Q : α → Env → Prop) (X : Str → List D → Env → Prop) : Prop := match r with
  | .ok a e => Q a e
  | .exn c ps e => X c ps e
  | .bad => False
def wO {α : Type} (o : Option α) (Q : α → Prop) : Prop := match o with
  | some a => Q a
  | none => False
def wS (r : RS) (Q : RS → Prop) : Prop := match r with
  | .bad => False
  | .nx e => Q (.nx e)
  | .bk e => Q (.bk e)
  | .ct e => Q (.ct e)
  | .rt v e => Q (.rt v e)
  | .exn c ps e => Q (.exn c ps e)
def wF (r : FR) (Q : DV → List D → Prop) (X : Str → List D → List D → Prop) : Prop := match r with
  | .ret v o => Q v o
  | .exn c ps o => X c ps o
  | .bad => False
def nxt (f : Env → Prop) (Q : RS → Prop) : RS → Prop
  | .nx e => f e
  | r => Q r
def sEx (Q : RS → Prop) (c : Str) (ps : List D) (e : Env) : Prop := Q (.exn c ps e)
/-- data in a slot; a list of one's own in a slot -/
def sV (e : Env) (i : Nat) (Q : D → Prop) : Prop := match e[i]? with
  | some (.val x) => Q x
  | _ => False
def sO (e : Env) (i : Nat) (Q : Bool → List D → Prop) : Prop := match e[i]? with
  | some (.own p xs) => Q p xs
  | _ => False
def isD (x : DV) (Q : List D → Prop) : Prop := match x with
  | .fr xs => Q xs
  | .d _ => False
def asInt (d : D) (Q : Int → Prop) : Prop := match d with
  | .int i => Q i
  | _ => False
def finP (own : Bool) (e : Env) (f : List D → Prop) : Prop := if own = true then sO e 0 fun p o => p = true ∧ f o else f []
def endP (own : Bool) (Q : DV → List D → Prop) (X : Str → List D → List D → Prop) : RS → Prop
  | .nx e => finP own e (Q (.d .none))
  | .rt v e => finP own e (Q v)
  | .exn c ps e => finP own e (X c ps)
  | _ => False

section
variable {α β : Type}
theorem wR_bind {r : R α} {f : α → Env → R β} {Q : β → Env → Prop} {X : Str → List D → Env → Prop} : wR (r.bind f) Q X = wR r (fun a e => wR (f a e) Q X) X := by
  cases r <;> rfl
theorem wS_thn {r : R α} {f : α → Env → RS} {Q : RS → Prop} : wS (r.thn f) Q = wR r (fun a e => wS (f a e) Q) (sEx Q) := by
  cases r <;> rfl
theorem wR_toR {o : Option α} {e : Env} {Q : α → Env → Prop} {X : Str → List D → Env → Prop} : wR (toR o e) Q X = wO o fun a => Q a e := by
  cases o <;> rfl
theorem wR_ite {c : Prop} [Decidable c] {r : R α} {Q : α → Env → Prop} {X : Str → List D → Env → Prop} : wR (if c then r else .bad) Q X = (c ∧ wR r Q X) := by
  by_cases h : c
  · rw [if_pos h]; simp [h]
  · rw [if_neg h]; simp [h, wR]
theorem wO_ite {c : Prop} [Decidable c] {a : α} {Q : α → Prop} : wO (if c then some a else none) Q = (c ∧ Q a) := by
  by_cases h : c
  · rw [if_pos h]; simp [h, wO]
  · rw [if_neg h]; simp [h, wO]
theorem wO_map {o : Option α} {f : α → β} {Q : β → Prop} : wO (o.map f) Q = wO o fun a => Q (f a) := by
  cases o <;> rfl
theorem wS_ite {c : Prop} [Decidable c] {r s : RS} {Q : RS → Prop} : wS (if c then r else s) Q = (if c then wS r Q else wS s Q) := by
  by_cases h : c
  · rw [if_pos h, if_pos h]
  · rw [if_neg h, if_neg h]
/-- weaker ends -/
theorem wR.imp {r : R α} {Q Q' : α → Env → Prop} {X X' : Str → List D → Env → Prop} (h : wR r Q X) (q : ∀ a e, Q a e → Q' a e) (x : ∀ c ps e, X c ps e → X' c ps e) : wR r Q' X' := by
  cases r with
  | ok a e => exact q _ _ h
  | exn c ps e => exact x _ _ _ h
  | bad => exact h
theorem wF.imp {r : FR} {Q Q' : DV → List D → Prop} {X X' : Str → List D → List D → Prop} (h : wF r Q X) (q : ∀ a e, Q a e → Q' a e) (x : ∀ c ps e, X c ps e → X' c ps e) : wF r Q' X' := by
  cases r with
  | ret a e => exact q _ _ h
  | exn c ps e => exact x _ _ _ h
  | bad => exact h
theorem wS.imp {r : RS} {Q Q' : RS → Prop} (h : wS r Q) (q : ∀ r, Q r → Q' r) : wS r Q' := by
  cases r with
  | bad => exact h
  | nx e => exact q _ h
  | bk e => exact q _ h
  | ct e => exact q _ h
  | rt v e => exact q _ h
  | exn c ps e => exact q _ h
theorem wF_true {r : FR} (h : wF r (fun v _ => v = .d (.bool true)) fun _ _ _ => False) : ∃ o, r = .ret (.d (.bool true)) o := by
  cases r with
  | ret v o =>
    have h : v = .d (.bool true) := h
    subst h
    exact ⟨o, rfl⟩
  | exn c ps o => exact h.elim
  | bad => exact h.elim
end

/-- a call's callee -/
def cF (Γ : List Fn) (k : Nat) (xs : List D) (Q : DV → Prop) (X : Str → List D → Prop) : Prop := match Γ[k]? with
  | some f => f.own = false ∧ f.np = xs.length ∧ wF (f.run [] xs) (fun v _ => Q v) fun c ps _ => X c ps
  | none => False
def cO (Γ : List Fn) (k : Nat) (o xs : List D) (Q : DV → List D → Prop) (X : Str → List D → List D → Prop) : Prop := match Γ[k]? with
  | some f => f.own = true ∧ f.np = xs.length + 1 ∧ wF (f.run o xs) Q X
  | none => False

section
variable (G : List D) (Γ : List Fn)
/-- the rules of terms -/
theorem rE : (∀ c e Q X, wR (evE G Γ (.lit c) e) Q X = Q (.d c) e) ∧
    (∀ i e Q X, wR (evE G Γ (.v i) e) Q X = sV e i fun x => Q (.d x) e) ∧
    (∀ i e Q X, wR (evE G Γ (.frz i) e) Q X = sO e i fun p xs => p = false ∧ Q (.d (.list xs)) (e.set i (.val (.list xs)))) ∧
    (∀ i e Q X, wR (evE G Γ (.tk i) e) Q X = sO e i fun p xs => p = false ∧ Q (.fr xs) (e.set i .un)) ∧
    (∀ i b e Q X, wR (evE G Γ (.oix i b) e) Q X = sO e i fun _ _ => wR (evE G Γ b e) (fun k e1 => sO e1 i fun _ xs => wO (ix (.list xs) k.fz) fun d => Q (.d d) e1) X) ∧
    (∀ a i e Q X, wR (evE G Γ (.oadd a i) e) Q X = wR (evE G Γ a e) (fun x e1 => sO e1 i fun _ ys => wO (bin .add x.fz (.list ys)) fun v => Q v e1) X) ∧
    (∀ i e Q X, wR (evE G Γ (.olen i) e) Q X = sO e i fun _ xs => Q (.d (.int xs.length)) e) ∧
    (∀ k e Q X, wR (evE G Γ (.gl k) e) Q X = wO G[k]? fun d => Q (.d d) e) ∧
    (∀ o a b e Q X, wR (evE G Γ (.bin o a b) e) Q X = wR (evE G Γ a e) (fun x e1 => wR (evE G Γ b e1) (fun y e2 => wO (bin o x.fz y.fz) fun v => Q v e2) X) X) ∧
    (∀ a e Q X, wR (evE G Γ (.neg a) e) Q X = wR (evE G Γ a e) (fun x e1 => asInt x.fz fun i => Q (.d (.int (-i))) e1) X) ∧
    (∀ a e Q X, wR (evE G Γ (.no a) e) Q X = wR (evE G Γ a e) (fun x e1 => wO (tru x.fz) fun b => Q (.d (.bool (!b))) e1) X) ∧
    (∀ o a b e Q X, wR (evE G Γ (.cmp o a b) e) Q X = wR (evE G Γ a e) (fun x e1 => wR (evE G Γ b e1) (fun y e2 => wO (cmp o x.fz y.fz) fun k => Q (.d (.bool k)) e2) X) X) ∧
    (∀ o p a b c e Q X, wR (evE G Γ (.chn o p a b c) e) Q X = wR (evE G Γ a e) (fun x e1 => wR (evE G Γ b e1) (fun y e2 => wO (cmp o x.fz y.fz) fun k => if k = true then wR (evE G Γ c e2) (fun z e3 => wO (cmp p y.fz z.fz) fun k => Q (.d (.bool k)) e3) X else Q (.d (.bool false)) e2) X) X) ∧
    (∀ a b e Q X, wR (evE G Γ (.and a b) e) Q X = wR (evE G Γ a e) (fun x e1 => wO (tru x.fz) fun k => if k = true then wR (evE G Γ b e1) (fun y e2 => Q (.d y.fz) e2) X else Q (.d x.fz) e1) X) ∧
    (∀ a b e Q X, wR (evE G Γ (.or a b) e) Q X = wR (evE G Γ a e) (fun x e1 => wO (tru x.fz) fun k => if k = true then Q (.d x.fz) e1 else wR (evE G Γ b e1) (fun y e2 => Q (.d y.fz) e2) X) X) ∧
    (∀ c a b e Q X, wR (evE G Γ (.ife c a b) e) Q X = wR (evE G Γ c e) (fun x e1 => wO (tru x.fz) fun k => if k = true then wR (evE G Γ a e1) (fun y e2 => Q (.d y.fz) e2) X else wR (evE G Γ b e1) (fun y e2 => Q (.d y.fz) e2) X) X) ∧
    (∀ es e Q X, wR (evE G Γ (.tup es) e) Q X = wR (evEs G Γ es e) (fun xs e1 => xs.length ≤ lim ∧ Q (.d (.tuple xs)) e1) X) ∧
    (∀ es e Q X, wR (evE G Γ (.lst es) e) Q X = wR (evEs G Γ es e) (fun xs e1 => xs.length ≤ lim ∧ Q (.fr xs) e1) X) ∧
    (∀ a b e Q X, wR (evE G Γ (.ix a b) e) Q X = wR (evE G Γ a e) (fun x e1 => wR (evE G Γ b e1) (fun y e2 => wO (ix x.fz y.fz) fun d => Q (.d d) e2) X) X) ∧
    (∀ a lo hi e Q X, wR (evE G Γ (.sl a lo hi) e) Q X = wR (evE G Γ a e) (fun x e1 => wR (evOp G Γ lo e1) (fun i e2 => wR (evOp G Γ hi e2) (fun j e3 => wO (sl x.fz i j) fun v => Q v e3) X) X) X) ∧
    (∀ a e Q X, wR (evE G Γ (.rsl a) e) Q X = wR (evE G Γ a e) (fun x e1 => wO (revSl x.fz) fun v => Q v e1) X) ∧
    (∀ it e Q X, wR (evE G Γ (.lit_ it) e) Q X = wR (evIt G Γ it e) (fun xs e1 => xs.length ≤ lim ∧ Q (.fr xs) e1) X) ∧
    (∀ a c e Q X, wR (evE G Γ (.isx a c) e) Q X = wR (evE G Γ a e) (fun x e1 => wO (isX c x.fz) fun b => Q (.d (.bool b)) e1) X) ∧
    (∀ f es e Q X, wR (evE G Γ (.bi f es) e) Q X = wR (evEs G Γ es e) (fun xs e1 => wO (bi f xs) fun v => Q v e1) X) ∧
    (∀ k es e Q X, wR (evE G Γ (.call k es) e) Q X = wR (evEs G Γ es e) (fun xs e1 => cF Γ k xs (fun v => Q v e1) fun c ps => X c ps e1) X) ∧
    (∀ k es a e Q X, wR (evE G Γ (.callk k es a) e) Q X = wR (evEs G Γ es e) (fun xs e1 => wR (evE G Γ a e1) (fun y e2 => cF Γ k (xs ++ [y.fz]) (fun v => Q v e2) fun c ps => X c ps e2) X) X) ∧
    (∀ k i es e Q X, wR (evE G Γ (.callo k i es) e) Q X = sO e i fun _ _ => wR (evEs G Γ es e) (fun xs e1 => sO e1 i fun p o => cO Γ k o xs (fun v o' => Q v (e1.set i (.own p o'))) fun c ps o' => X c ps (e1.set i (.own p o'))) X) := by
  refine ⟨fun _ _ _ _ => rfl, fun i e Q X => ?_, fun i e Q X => ?_, fun i e Q X => ?_, fun i b e Q X => ?_, fun a i e Q X => ?_, fun i e Q X => ?_, fun k e Q X => ?_, fun o a b e Q X => ?_, fun a e Q X => ?_, fun a e Q X => ?_, fun o a b e Q X => ?_, fun o p a b c e Q X => ?_, fun a b e Q X => ?_, fun a b e Q X => ?_, fun c a b e Q X => ?_,
    fun es e Q X => ?_, fun es e Q X => ?_, fun a b e Q X => ?_, fun a lo hi e Q X => ?_, fun a e Q X => ?_, fun it e Q X => ?_, fun a c e Q X => ?_, fun f es e Q X => ?_, fun k es e Q X => ?_, fun k es a e Q X => ?_, fun k i es e Q X => ?_⟩
  · show wR (match e[i]? with | some (.val x) => R.ok (DV.d x) e | _ => .bad) Q X = _
    unfold sV
    split <;> simp_all [wR]
  · show wR (match e[i]? with | some (.own false xs) => R.ok (DV.d (.list xs)) (e.set i (.val (.list xs))) | _ => .bad) Q X = _
    unfold sO
    cases e[i]? with
    | none => rfl
    | some s =>
      cases s with
      | un => rfl
      | val _ => rfl
      | own p xs => cases p <;> simp [wR]
  · show wR (match e[i]? with | some (.own false xs) => R.ok (DV.fr xs) (e.set i .un) | _ => .bad) Q X = _
    unfold sO
    cases e[i]? with
    | none => rfl
    | some s =>
      cases s with
      | un => rfl
      | val _ => rfl
      | own p xs => cases p <;> simp [wR]
  · show wR (match e[i]? with
      | some (.own _ _) => (evE G Γ b e).bind fun k e1 => match e1[i]? with
        | some (.own _ xs) => toR ((ix (.list xs) k.fz).map DV.d) e1
        | _ => .bad
      | _ => .bad) Q X = _
    unfold sO
    cases e[i]? with
    | none => rfl
    | some s =>
      cases s with
      | un => rfl
      | val _ => rfl
      | own p xs =>
        show wR ((evE G Γ b e).bind fun k e1 => match e1[i]? with
          | some (.own _ xs) => toR ((ix (.list xs) k.fz).map DV.d) e1
          | _ => .bad) Q X = wR (evE G Γ b e) (fun k e1 => match e1[i]? with
          | some (.own _ xs) => wO (ix (.list xs) k.fz) fun d => Q (.d d) e1
          | _ => False) X
        rw [wR_bind]
        congr 1
        funext k e1
        cases e1[i]? with
        | none => rfl
        | some s1 =>
          cases s1 with
          | un => rfl
          | val _ => rfl
          | own p1 xs1 =>
            show wR (toR ((ix (.list xs1) k.fz).map DV.d) e1) Q X = wO (ix (.list xs1) k.fz) fun d => Q (.d d) e1
            rw [wR_toR, wO_map]
  · show wR ((evE G Γ a e).bind fun x e1 => match e1[i]? with
      | some (.own _ ys) => toR (bin .add x.fz (.list ys)) e1
      | _ => .bad) Q X = _
    rw [wR_bind]
    congr 1
    funext x e1
    unfold sO
    cases e1[i]? with
    | none => rfl
    | some s =>
      cases s with
      | un => rfl
      | val _ => rfl
      | own p ys => exact wR_toR
  · show wR (match e[i]? with | some (.own _ xs) => R.ok (DV.d (.int xs.length)) e | _ => .bad) Q X = _
    unfold sO
    cases e[i]? with
    | none => rfl
    | some s => cases s <;> rfl
  · show wR (match G[k]? with | some x => R.ok (DV.d x) e | none => .bad) Q X = _
    cases G[k]? <;> rfl
  · show wR ((evE G Γ a e).bind fun x e1 => (evE G Γ b e1).bind fun y e2 => toR (bin o x.fz y.fz) e2) Q X = _
    simp only [wR_bind, wR_toR]
  · show wR ((evE G Γ a e).bind fun x e1 => match x.fz with | .int i => R.ok (DV.d (.int (-i))) e1 | _ => .bad) Q X = _
    rw [wR_bind]
    congr 1
    funext x e1
    cases x.fz <;> rfl
  · show wR ((evE G Γ a e).bind fun x e1 => match tru x.fz with | some b => R.ok (DV.d (.bool (!b))) e1 | none => .bad) Q X = _
    rw [wR_bind]
    congr 1
    funext x e1
    cases tru x.fz <;> rfl
  · show wR ((evE G Γ a e).bind fun x e1 => (evE G Γ b e1).bind fun y e2 => toR ((cmp o x.fz y.fz).map fun b => DV.d (.bool b)) e2) Q X = _
    simp only [wR_bind, wR_toR, wO_map]
  · show wR ((evE G Γ a e).bind fun x e1 => (evE G Γ b e1).bind fun y e2 => match cmp o x.fz y.fz with
      | some true => (evE G Γ c e2).bind fun z e3 => toR ((cmp p y.fz z.fz).map fun b => DV.d (.bool b)) e3
      | some false => R.ok (DV.d (.bool false)) e2
      | none => .bad) Q X = _
    simp only [wR_bind]
    congr 1
    funext x e1
    congr 1
    funext y e2
    cases cmp o x.fz y.fz with
    | none => rfl
    | some k =>
      cases k with
      | false => simp [wO, wR]
      | true =>
        show wR ((evE G Γ c e2).bind fun z e3 => toR ((cmp p y.fz z.fz).map fun b => DV.d (.bool b)) e3) Q X = wR (evE G Γ c e2) (fun z e3 => wO (cmp p y.fz z.fz) fun k => Q (.d (.bool k)) e3) X
        simp only [wR_bind, wR_toR, wO_map]
  · show wR ((evE G Γ a e).bind fun x e1 => match tru x.fz with
      | some true => (evE G Γ b e1).bind fun y e2 => R.ok (DV.d y.fz) e2
      | some false => R.ok (DV.d x.fz) e1
      | none => .bad) Q X = _
    rw [wR_bind]
    congr 1
    funext x e1
    cases tru x.fz with
    | none => rfl
    | some k =>
      cases k with
      | false => simp [wO, wR]
      | true =>
        show wR ((evE G Γ b e1).bind fun y e2 => R.ok (DV.d y.fz) e2) Q X = _
        simp only [wR_bind, wO, if_true]
        rfl
  · show wR ((evE G Γ a e).bind fun x e1 => match tru x.fz with
      | some false => (evE G Γ b e1).bind fun y e2 => R.ok (DV.d y.fz) e2
      | some true => R.ok (DV.d x.fz) e1
      | none => .bad) Q X = _
    rw [wR_bind]
    congr 1
    funext x e1
    cases tru x.fz with
    | none => rfl
    | some k =>
      cases k with
      | true => simp [wO, wR]
      | false =>
        show wR ((evE G Γ b e1).bind fun y e2 => R.ok (DV.d y.fz) e2) Q X = _
        simp only [wR_bind, wO, Bool.false_eq_true, if_false]
        rfl
  · show wR ((evE G Γ c e).bind fun x e1 => match tru x.fz with
      | some true => (evE G Γ a e1).bind fun y e2 => R.ok (DV.d y.fz) e2
      | some false => (evE G Γ b e1).bind fun y e2 => R.ok (DV.d y.fz) e2
      | none => .bad) Q X = _
    rw [wR_bind]
    congr 1
    funext x e1
    cases tru x.fz with
    | none => rfl
    | some k =>
      cases k with
      | true =>
        show wR ((evE G Γ a e1).bind fun y e2 => R.ok (DV.d y.fz) e2) Q X = _
        simp only [wR_bind, wO, if_true]
        rfl
      | false =>
        show wR ((evE G Γ b e1).bind fun y e2 => R.ok (DV.d y.fz) e2) Q X = _
        simp only [wR_bind, wO, Bool.false_eq_true, if_false]
        rfl
  · show wR ((evEs G Γ es e).bind fun xs e1 => if xs.length ≤ lim then R.ok (DV.d (.tuple xs)) e1 else .bad) Q X = _
    simp only [wR_bind, wR_ite]
    rfl
  · show wR ((evEs G Γ es e).bind fun xs e1 => if xs.length ≤ lim then R.ok (DV.fr xs) e1 else .bad) Q X = _
    simp only [wR_bind, wR_ite]
    rfl
  · show wR ((evE G Γ a e).bind fun x e1 => (evE G Γ b e1).bind fun y e2 => toR ((ix x.fz y.fz).map DV.d) e2) Q X = _
    simp only [wR_bind, wR_toR, wO_map]
  · show wR ((evE G Γ a e).bind fun x e1 => (evOp G Γ lo e1).bind fun i e2 => (evOp G Γ hi e2).bind fun j e3 => toR (sl x.fz i j) e3) Q X = _
    simp only [wR_bind, wR_toR]
  · show wR ((evE G Γ a e).bind fun x e1 => toR (revSl x.fz) e1) Q X = _
    simp only [wR_bind, wR_toR]
  · show wR ((evIt G Γ it e).bind fun xs e1 => if xs.length ≤ lim then R.ok (DV.fr xs) e1 else .bad) Q X = _
    rw [wR_bind]
    congr 1
    funext xs e1
    by_cases h : xs.length ≤ lim
    · rw [if_pos h]
      show Q _ _ = _
      simp [h]
    · rw [if_neg h]
      show False = _
      simp [h]
  · show wR ((evE G Γ a e).bind fun x e1 => toR ((isX c x.fz).map fun b => DV.d (.bool b)) e1) Q X = _
    simp only [wR_bind, wR_toR, wO_map]
  · show wR ((evEs G Γ es e).bind fun xs e1 => toR (bi f xs) e1) Q X = _
    simp only [wR_bind, wR_toR]
  · show wR ((evEs G Γ es e).bind fun xs e1 => match Γ[k]? with
      | some f => if f.own = false ∧ f.np = xs.length then (match f.run [] xs with
        | .ret v _ => R.ok v e1
        | .exn c ps _ => R.exn c ps e1
        | .bad => .bad) else .bad
      | none => .bad) Q X = _
    rw [wR_bind]
    congr 1
    funext xs e1
    unfold cF
    cases Γ[k]? with
    | none => rfl
    | some f =>
      show wR (if f.own = false ∧ f.np = xs.length then (match f.run [] xs with
        | .ret v _ => R.ok v e1
        | .exn c ps _ => R.exn c ps e1
        | .bad => .bad) else .bad) Q X = (f.own = false ∧ f.np = xs.length ∧ wF (f.run [] xs) (fun v _ => Q v e1) fun c ps _ => X c ps e1)
      rw [wR_ite, and_assoc]
      cases f.run [] xs <;> rfl
  · show wR ((evEs G Γ es e).bind fun xs e1 => (evE G Γ a e1).bind fun y e2 => match Γ[k]? with
      | some f => if f.own = false ∧ f.np = xs.length + 1 then (match f.run [] (xs ++ [y.fz]) with
        | .ret v _ => R.ok v e2
        | .exn c ps _ => R.exn c ps e2
        | .bad => .bad) else .bad
      | none => .bad) Q X = _
    rw [wR_bind]
    congr 1
    funext xs e1
    rw [wR_bind]
    congr 1
    funext y e2
    unfold cF
    cases Γ[k]? with
    | none => rfl
    | some f =>
      show wR (if f.own = false ∧ f.np = xs.length + 1 then (match f.run [] (xs ++ [y.fz]) with
        | .ret v _ => R.ok v e2
        | .exn c ps _ => R.exn c ps e2
        | .bad => .bad) else .bad) Q X = (f.own = false ∧ f.np = (xs ++ [y.fz]).length ∧ wF (f.run [] (xs ++ [y.fz])) (fun v _ => Q v e2) fun c ps _ => X c ps e2)
      rw [wR_ite, and_assoc, List.length_append]
      show (_ ∧ f.np = xs.length + 1 ∧ _) = (_ ∧ f.np = xs.length + 1 ∧ _)
      cases f.run [] (xs ++ [y.fz]) <;> rfl
  · show wR (match e[i]? with
      | some (.own _ _) => (evEs G Γ es e).bind fun xs e1 => match Γ[k]?, e1[i]? with
        | some f, some (.own p o) => if f.own = true ∧ f.np = xs.length + 1 then (match f.run o xs with
          | .ret v o' => R.ok v (e1.set i (.own p o'))
          | .exn c ps o' => R.exn c ps (e1.set i (.own p o'))
          | .bad => .bad) else .bad
        | _, _ => .bad
      | _ => .bad) Q X = _
    unfold sO
    cases e[i]? with
    | none => rfl
    | some s =>
      cases s with
      | un => rfl
      | val _ => rfl
      | own p xs =>
        show wR ((evEs G Γ es e).bind fun xs e1 => match Γ[k]?, e1[i]? with
          | some f, some (.own p o) => if f.own = true ∧ f.np = xs.length + 1 then (match f.run o xs with
            | .ret v o' => R.ok v (e1.set i (.own p o'))
            | .exn c ps o' => R.exn c ps (e1.set i (.own p o'))
            | .bad => .bad) else .bad
          | _, _ => .bad) Q X = wR (evEs G Γ es e) (fun xs e1 => match e1[i]? with
          | some (.own p o) => cO Γ k o xs (fun v o' => Q v (e1.set i (.own p o'))) fun c ps o' => X c ps (e1.set i (.own p o'))
          | _ => False) X
        rw [wR_bind]
        congr 1
        funext ys e1
        cases hk : Γ[k]? with
        | none =>
          cases e1[i]? with
          | none => rfl
          | some s1 =>
            cases s1 with
            | un => rfl
            | val _ => rfl
            | own p1 o1 =>
              show False = cO Γ k o1 ys _ _
              unfold cO
              rw [hk]
        | some f =>
          cases e1[i]? with
          | none => rfl
          | some s1 =>
            cases s1 with
            | un => rfl
            | val _ => rfl
            | own p1 o1 =>
              show wR (if f.own = true ∧ f.np = ys.length + 1 then (match f.run o1 ys with
                | .ret v o' => R.ok v (e1.set i (.own p1 o'))
                | .exn c ps o' => R.exn c ps (e1.set i (.own p1 o'))
                | .bad => .bad) else .bad) Q X = cO Γ k o1 ys _ _
              unfold cO
              rw [hk, wR_ite, and_assoc]
              show _ = (f.own = true ∧ f.np = ys.length + 1 ∧ wF (f.run o1 ys) _ _)
              cases f.run o1 ys <;> rfl
end
end DL


set_option Elab.async false
set_option linter.all false
set_option maxRecDepth 100000
set_option maxHeartbeats 2000000
/-! DL24: .. argument lists, iterators, comprehensions, statements, defs, data. -/
namespace DL
open PySem

abbrev noX : Str → List D → Env → Prop := fun _ _ _ => False
section
variable (G : List D) (Γ : List Fn)
theorem rEs : (∀ e Q X, wR (evEs G Γ .nil e) Q X = Q [] e) ∧
    (∀ a as e Q X, wR (evEs G Γ (.cons a as) e) Q X = wR (evE G Γ a e) (fun x e1 => wR (evEs G Γ as e1) (fun xs e2 => Q (x.fz :: xs) e2) X) X) ∧
    (∀ e Q X, wR (evOp G Γ .non e) Q X = Q none e) ∧
    (∀ a e Q X, wR (evOp G Γ (.som a) e) Q X = wR (evE G Γ a e) (fun x e1 => asInt x.fz fun i => Q (some i) e1) X) ∧
    (∀ e Q X, wR (evOpT G Γ .non e) Q X = Q true e) ∧
    (∀ a e Q X, wR (evOpT G Γ (.som a) e) Q X = wR (evE G Γ a e) (fun x e1 => wO (tru x.fz) fun k => Q k e1) X) ∧
    (∀ a e Q X, wR (evT G Γ a e) Q X = wR (evE G Γ a e) (fun x e1 => wO (tru x.fz) fun k => Q k e1) X) ∧
    (∀ a e Q X, wR (evIt G Γ (.seq a) e) Q X = wR (evE G Γ a e) (fun x e1 => wO (items? x.fz) fun xs => Q xs e1) X) ∧
    (∀ s es e Q X, wR (evIt G Γ (.zip s es) e) Q X = wR (evEs G Γ es e) (fun xs e1 => wO (zipD s xs) fun xs => Q xs e1) X) ∧
    (∀ it e Q X, wR (evIt G Γ (.enum it) e) Q X = wR (evIt G Γ it e) (fun xs e1 => Q (enumD 0 xs) e1) X) ∧
    (∀ es e Q X, wR (evIt G Γ (.rng es) e) Q X = wR (evEs G Γ es e) (fun xs e1 => wO (rngD xs) fun xs => Q xs e1) X) ∧
    (∀ a e Q X, wR (evIt G Γ (.rev a) e) Q X = wR (evE G Γ a e) (fun x e1 => wO (items? x.fz) fun xs => Q xs.reverse e1) X) ∧
    (∀ x vs g it c e Q X, wR (evE G Γ (.comp x vs g it c) e) Q X = wR (evIt G Γ it e) (fun xs e1 => plainAt e1 vs = true ∧ wR (compGo (bodyC G Γ x vs g c) xs (wipeE e1 vs)) (fun ys e6 => ys.length ≤ lim ∧ Q (.fr ys) (putBack e1 e6 vs)) noX) X) ∧
    (∀ x vs g c z e Q X, wR (bodyC G Γ x vs g c z e) Q X = wO (bindT g z (wipeE e vs)) fun e3 => wR (evOpT G Γ c e3) (fun b e4 => if b = true then wR (evE G Γ x e4) (fun y e5 => Q (some y.fz) e5) X else Q none e4) X) := by
  refine ⟨fun _ _ _ => rfl, fun a as e Q X => ?_, fun _ _ _ => rfl, fun a e Q X => ?_, fun _ _ _ => rfl, fun a e Q X => ?_, fun a e Q X => ?_, fun a e Q X => ?_, fun s es e Q X => ?_, fun it e Q X => ?_, fun es e Q X => ?_, fun a e Q X => ?_, fun x vs g it c e Q X => ?_, fun x vs g c z e Q X => ?_⟩
  · show wR ((evE G Γ a e).bind fun x e1 => (evEs G Γ as e1).bind fun xs e2 => R.ok (x.fz :: xs) e2) Q X = _
    simp only [wR_bind]
    rfl
  · show wR ((evE G Γ a e).bind fun x e1 => match x.fz with | .int i => R.ok (some i) e1 | _ => .bad) Q X = _
    rw [wR_bind]
    congr 1
    funext x e1
    cases x.fz <;> rfl
  · show wR ((evE G Γ a e).bind fun x e1 => toR (tru x.fz) e1) Q X = _
    simp only [wR_bind, wR_toR]
  · show wR ((evE G Γ a e).bind fun x e1 => toR (tru x.fz) e1) Q X = _
    simp only [wR_bind, wR_toR]
  · show wR ((evE G Γ a e).bind fun x e1 => toR (items? x.fz) e1) Q X = _
    simp only [wR_bind, wR_toR]
  · show wR ((evEs G Γ es e).bind fun xs e1 => toR (zipD s xs) e1) Q X = _
    simp only [wR_bind, wR_toR]
  · show wR ((evIt G Γ it e).bind fun xs e1 => R.ok (enumD 0 xs) e1) Q X = _
    simp only [wR_bind]
    rfl
  · show wR ((evEs G Γ es e).bind fun xs e1 => toR (rngD xs) e1) Q X = _
    simp only [wR_bind, wR_toR]
  · show wR ((evE G Γ a e).bind fun x e1 => toR ((items? x.fz).map List.reverse) e1) Q X = _
    simp only [wR_bind, wR_toR, wO_map]
  · rw [evE_comp, wR_bind]
    congr 1
    funext xs e1
    unfold restC
    cases plainAt e1 vs with
    | false => simp [wR]
    | true =>
      rw [if_pos rfl]
      cases compGo (bodyC G Γ x vs g c) xs (wipeE e1 vs) with
      | bad => simp [wR]
      | exn _ _ _ => simp [wR, noX]
      | ok ys e6 =>
        show wR (if ys.length ≤ lim then R.ok (DV.fr ys) (putBack e1 e6 vs) else .bad) Q X = (true = true ∧ (ys.length ≤ lim ∧ Q (.fr ys) (putBack e1 e6 vs)))
        rw [wR_ite]
        simp [wR]
  · unfold bodyC
    cases bindT g z (wipeE e vs) with
    | none => rfl
    | some e3 =>
      show wR ((evOpT G Γ c e3).bind fun b e4 => if b then (evE G Γ x e4).bind fun y e5 => R.ok (some y.fz) e5 else R.ok none e4) Q X = wR (evOpT G Γ c e3) _ X
      rw [wR_bind]
      congr 1
      funext b e4
      cases b with
      | true =>
        show wR ((evE G Γ x e4).bind fun y e5 => R.ok (some y.fz) e5) Q X = _
        simp only [wR_bind, if_true]
        rfl
      | false => simp [wR]
/-- behind a try that catches -/
def cat (c : Str) (i j : Nat) (Q : RS → Prop) : RS → Prop
  | .exn k ps e1 => exNames.contains k = true ∧ (if exSub k c = true then ps = [] ∧ i < e1.length ∧ Q (.nx (((e1.set i (.val (exD k []))).set j (.val (exD k []))).set i .un)) else Q (.exn k ps e1))
  | r => Q r
/-- the rules of statements -/
theorem rS : (∀ e Q, wS (evSs G Γ .nil e) Q = Q (.nx e)) ∧
    (∀ s ss e Q, wS (evSs G Γ (.cons s ss) e) Q = wS (evS G Γ s e) (nxt (fun e1 => wS (evSs G Γ ss e1) Q) Q)) ∧
    (∀ t a e Q, wS (evS G Γ (.asg t a) e) Q = wR (evE G Γ a e) (fun x e1 => wO (bindT t x.fz e1) fun e2 => Q (.nx e2)) (sEx Q)) ∧
    (∀ i a e Q, wS (evS G Γ (.own i a) e) Q = wR (evE G Γ a e) (fun x e1 => isD x fun xs => Q (.nx (e1.set i (.own false xs)))) (sEx Q)) ∧
    (∀ i k a e Q, wS (evS G Γ (.seti i k a) e) Q = wR (evE G Γ a e) (fun x e1 => sO e1 i fun _ _ => wR (evE G Γ k e1) (fun j e2 => sO e2 i fun p xs => asInt j.fz fun n => wO (L2.ixN xs.length n) fun m => Q (.nx (e2.set i (.own p (xs.set m x.fz))))) (sEx Q)) (sEx Q)) ∧
    (∀ i a e Q, wS (evS G Γ (.app i a) e) Q = sO e i fun _ _ => wR (evE G Γ a e) (fun x e1 => sO e1 i fun p xs => xs.length < lim ∧ Q (.nx (e1.set i (.own p (xs ++ [x.fz]))))) (sEx Q)) ∧
    (∀ c a b e Q, wS (evS G Γ (.ife c a b) e) Q = wR (evE G Γ c e) (fun x e1 => wO (tru x.fz) fun k => if k = true then wS (evSs G Γ a e1) Q else wS (evSs G Γ b e1) Q) (sEx Q)) ∧
    (∀ g it b e Q, wS (evS G Γ (.for_ g it b) e) Q = wR (evIt G Γ it e) (fun xs e1 => wS (forGo g (evSs G Γ b) xs e1) Q) (sEx Q)) ∧
    (∀ n c b e Q, wS (evS G Γ (.whil n c b) e) Q = wS (whileGo (evT G Γ c) (evSs G Γ b) (n e) e) Q) ∧
    (∀ a e Q, wS (evS G Γ (.ret a) e) Q = wR (evE G Γ a e) (fun x e1 => Q (.rt x e1)) (sEx Q)) ∧
    (∀ e Q, wS (evS G Γ .retn e) Q = Q (.rt (.d .none) e)) ∧
    (∀ c es e Q, wS (evS G Γ (.rai c es) e) Q = wR (evEs G Γ es e) (fun xs e1 => Q (.exn c xs e1)) (sEx Q)) ∧
    (∀ a e Q, wS (evS G Γ (.ex a) e) Q = wR (evE G Γ a e) (fun _ e1 => Q (.nx e1)) (sEx Q)) ∧
    (∀ b c i j e Q, wS (evS G Γ (.tryc b c i j) e) Q = wS (evSs G Γ b e) (cat c i j Q)) ∧
    (∀ e Q, wS (evS G Γ .pass e) Q = Q (.nx e)) ∧ (∀ e Q, wS (evS G Γ .brk e) Q = Q (.bk e)) ∧ (∀ e Q, wS (evS G Γ .cnt e) Q = Q (.ct e)) := by
  refine ⟨fun _ _ => rfl, fun s ss e Q => ?_, fun t a e Q => ?_, fun i a e Q => ?_, fun i k a e Q => ?_, fun i a e Q => ?_, fun c a b e Q => ?_, fun g it b e Q => ?_, fun _ _ _ _ _ => rfl, fun a e Q => ?_, fun _ _ => rfl, fun c es e Q => ?_, fun a e Q => ?_, fun b c i j e Q => ?_, fun _ _ => rfl, fun _ _ => rfl, fun _ _ => rfl⟩
  · show wS (match evS G Γ s e with | .nx e1 => evSs G Γ ss e1 | r => r) Q = _
    cases evS G Γ s e <;> rfl
  · show wS ((evE G Γ a e).thn fun x e1 => match bindT t x.fz e1 with | some e2 => .nx e2 | none => .bad) Q = _
    rw [wS_thn]
    congr 1
    funext x e1
    cases bindT t x.fz e1 <;> rfl
  · show wS ((evE G Γ a e).thn fun x e1 => match x with | .fr xs => .nx (e1.set i (.own false xs)) | .d _ => .bad) Q = _
    rw [wS_thn]
    congr 1
    funext x e1
    cases x <;> rfl
  · show wS ((evE G Γ a e).thn fun x e1 => match e1[i]? with
      | some (.own _ _) => (evE G Γ k e1).thn fun j e2 => match e2[i]?, j.fz with
        | some (.own p xs), .int n => match L2.ixN xs.length n with
          | some m => .nx (e2.set i (.own p (xs.set m x.fz)))
          | none => .bad
        | _, _ => .bad
      | _ => .bad) Q = _
    rw [wS_thn]
    congr 1
    funext x e1
    unfold sO
    cases e1[i]? with
    | none => rfl
    | some s =>
      cases s with
      | un => rfl
      | val _ => rfl
      | own p0 xs0 =>
        show wS ((evE G Γ k e1).thn fun j e2 => match e2[i]?, j.fz with
          | some (.own p xs), .int n => match L2.ixN xs.length n with
            | some m => .nx (e2.set i (.own p (xs.set m x.fz)))
            | none => .bad
          | _, _ => .bad) Q = wR (evE G Γ k e1) _ (sEx Q)
        rw [wS_thn]
        congr 1
        funext j e2
        cases e2[i]? with
        | none => rfl
        | some s2 =>
          cases s2 with
          | un => rfl
          | val _ => rfl
          | own p xs =>
            cases j.fz with
            | int n =>
              show wS (match L2.ixN xs.length n with | some m => .nx (e2.set i (.own p (xs.set m x.fz))) | none => .bad) Q = wO (L2.ixN xs.length n) _
              cases L2.ixN xs.length n <;> rfl
            | _ => rfl
  · show wS (match e[i]? with
      | some (.own _ _) => (evE G Γ a e).thn fun x e1 => match e1[i]? with
        | some (.own p xs) => if xs.length < lim then .nx (e1.set i (.own p (xs ++ [x.fz]))) else .bad
        | _ => .bad
      | _ => .bad) Q = _
    unfold sO
    cases e[i]? with
    | none => rfl
    | some s =>
      cases s with
      | un => rfl
      | val _ => rfl
      | own p0 xs0 =>
        show wS ((evE G Γ a e).thn fun x e1 => match e1[i]? with
          | some (.own p xs) => if xs.length < lim then .nx (e1.set i (.own p (xs ++ [x.fz]))) else .bad
          | _ => .bad) Q = wR (evE G Γ a e) _ (sEx Q)
        rw [wS_thn]
        congr 1
        funext x e1
        cases e1[i]? with
        | none => rfl
        | some s1 =>
          cases s1 with
          | un => rfl
          | val _ => rfl
          | own p xs =>
            show wS (if xs.length < lim then .nx (e1.set i (.own p (xs ++ [x.fz]))) else .bad) Q = (xs.length < lim ∧ Q (.nx (e1.set i (.own p (xs ++ [x.fz])))))
            by_cases h : xs.length < lim
            · rw [if_pos h]; simp [h, wS]
            · rw [if_neg h]; simp [h, wS]
  · show wS ((evT G Γ c e).thn fun x e1 => if x then evSs G Γ a e1 else evSs G Γ b e1) Q = _
    rw [wS_thn]
    show wR ((evE G Γ c e).bind fun x e1 => toR (tru x.fz) e1) _ _ = _
    simp only [wR_bind, wR_toR, wS_ite]
  · show wS ((evIt G Γ it e).thn fun xs e1 => forGo g (evSs G Γ b) xs e1) Q = _
    rw [wS_thn]
  · show wS ((evE G Γ a e).thn fun x e1 => .rt x e1) Q = _
    rw [wS_thn]
    rfl
  · show wS ((evEs G Γ es e).thn fun xs e1 => .exn c xs e1) Q = _
    rw [wS_thn]
    rfl
  · show wS ((evE G Γ a e).thn fun _ e1 => .nx e1) Q = _
    rw [wS_thn]
    rfl
  · show wS (match evSs G Γ b e with
      | .exn k ps e1 => catR c i j k ps e1
      | r => r) Q = _
    cases evSs G Γ b e with
    | exn k ps e1 =>
      show wS (catR c i j k ps e1) Q = cat c i j Q (.exn k ps e1)
      unfold cat catR
      by_cases hk : exNames.contains k = true
      · rw [if_pos hk]
        by_cases hs : exSub k c = true
        · rw [if_pos hs]
          cases ps with
          | cons _ _ => simp only [wS, hk, hs, if_true, true_and, reduceCtorEq, false_and]
          | nil =>
            show wS (if i < e1.length then .nx (((e1.set i (.val (exD k []))).set j (.val (exD k []))).set i .un) else .bad) Q = _
            by_cases hi : i < e1.length
            · rw [if_pos hi]; simp only [wS, hk, hs, hi, if_true, true_and]
            · rw [if_neg hi]; simp only [wS, hk, hs, hi, if_true, true_and, false_and]
        · rw [if_neg hs]; simp only [wS, hk, hs, if_false, true_and, Bool.false_eq_true]
      · rw [if_neg hk]; simp only [wS, hk, false_and, Bool.false_eq_true]
    | bad => rfl
    | nx e => rfl
    | bk e => rfl
    | ct e => rfl
    | rt v e => rfl
theorem rF (own : Bool) (n : Nat) (b : Sxs) (o xs : List D) (Q : DV → List D → Prop) (X : Str → List D → List D → Prop) : wF (evF G Γ own n b o xs) Q X = wS (evSs G Γ b (env0 own n o xs)) (endP own Q X) := by
  rw [evF_eq]
  have fe : ∀ (e : Env) (f : List D → FR), wF (finF own e f) Q X = finP own e fun o => wF (f o) Q X := fun e f => by
    unfold finF finP sO
    cases own with
    | false => rfl
    | true =>
      simp only [if_true]
      cases (e[0]? : Option Slot) with
      | none => rfl
      | some s =>
        cases s with
        | un => rfl
        | val _ => rfl
        | own p o' => cases p <;> simp [wF]
  cases evSs G Γ b (env0 own n o xs) with
  | nx e => exact fe e _
  | rt v e => exact fe e _
  | exn c ps e => exact fe e _
  | bk e => rfl
  | ct e => rfl
  | bad => rfl
end

/-- a for's turns: I of what is left and the slots -/
theorem for_inv {g : Tg} {f : Env → RS} {Q : RS → Prop} (I : List D → Env → Prop) (step : ∀ x r e, I (x :: r) e → wO (bindT g x e) fun e1 => wS (f e1) fun s => match s with
      | .nx e2 => I r e2
      | .ct e2 => I r e2
      | .bk e2 => Q (.nx e2)
      | s => Q s) (done : ∀ e, I [] e → Q (.nx e)) : ∀ (xs : List D) (e : Env), I xs e → wS (forGo g f xs e) Q
  | [], e, h => done e h
  | x :: r, e, h => by
    have s := step x r e h
    show wS (match bindT g x e with
      | none => .bad
      | some e1 => match f e1 with
        | .nx e2 => forGo g f r e2
        | .ct e2 => forGo g f r e2
        | .bk e2 => .nx e2
        | .rt v e2 => .rt v e2
        | .exn c ps e2 => .exn c ps e2
        | .bad => .bad) Q
    cases hb : bindT g x e with
    | none => rw [hb] at s; exact s.elim
    | some e1 =>
      rw [hb] at s
      have s : wS (f e1) fun s => match s with
        | .nx e2 => I r e2
        | .ct e2 => I r e2
        | .bk e2 => Q (.nx e2)
        | s => Q s := s
      show wS (match f e1 with
        | .nx e2 => forGo g f r e2
        | .ct e2 => forGo g f r e2
        | .bk e2 => .nx e2
        | .rt v e2 => .rt v e2
        | .exn c ps e2 => .exn c ps e2
        | .bad => .bad) Q
      cases hf : f e1 with
      | nx e2 => rw [hf] at s; exact for_inv I step done r e2 s
      | ct e2 => rw [hf] at s; exact for_inv I step done r e2 s
      | bk e2 => rw [hf] at s; exact s
      | rt v e2 => rw [hf] at s; exact s
      | exn c ps e2 => rw [hf] at s; exact s
      | bad => rw [hf] at s; exact s
theorem while_inv {c : Env → R Bool} {f : Env → RS} {Q : RS → Prop} (I : Env → Prop) (m : Env → Nat) (step : ∀ e, I e → wR (c e) (fun b e1 => if b = true then wS (f e1) fun s => match s with
      | .nx e2 => I e2 ∧ m e2 < m e
      | .ct e2 => I e2 ∧ m e2 < m e
      | .bk e2 => Q (.nx e2)
      | s => Q s else Q (.nx e1)) (sEx Q)) : ∀ (n : Nat) (e : Env), I e → m e < n → wS (whileGo c f n e) Q
  | 0, e, _, h => absurd h (Nat.not_lt_zero _)
  | n + 1, e, h, hm => by
    show wS ((c e).thn fun b e1 => if b then (match f e1 with
      | .nx e2 => whileGo c f n e2
      | .ct e2 => whileGo c f n e2
      | .bk e2 => .nx e2
      | .rt v e2 => .rt v e2
      | .exn c ps e2 => .exn c ps e2
      | .bad => .bad) else .nx e1) Q
    rw [wS_thn]
    refine wR.imp (step e h) (fun b e1 s => ?_) fun _ _ _ x => x
    cases b with
    | false => exact s
    | true =>
      rw [if_pos rfl] at s
      show wS (match f e1 with
        | .nx e2 => whileGo c f n e2
        | .ct e2 => whileGo c f n e2
        | .bk e2 => .nx e2
        | .rt v e2 => .rt v e2
        | .exn c ps e2 => .exn c ps e2
        | .bad => .bad) Q
      cases hf : f e1 with
      | nx e2 => rw [hf] at s; exact while_inv I m step n e2 s.1 (by have := s.2; omega)
      | ct e2 => rw [hf] at s; exact while_inv I m step n e2 s.1 (by have := s.2; omega)
      | bk e2 => rw [hf] at s; exact s
      | rt v e2 => rw [hf] at s; exact s
      | exn c ps e2 => rw [hf] at s; exact s
      | bad => rw [hf] at s; exact s
/-- two lists, item by item -/
inductive All2 {α β : Type} (P : α → β → Prop) : List α → List β → Prop
  | nil : All2 P [] []
  | cons {x y xs ys} : P x y → All2 P xs ys → All2 P (x :: xs) (y :: ys)
/-- a comprehension's turns, each with an item -/
theorem comp_all {f : D → Env → R (Option D)} (I : Env → Prop) (P : D → D → Prop) : ∀ (xs : List D) (e : Env), I e → (∀ x ∈ xs, ∀ e, I e → wR (f x e) (fun o e1 => I e1 ∧ ∃ y, o = some y ∧ P x y) noX) → wR (compGo f xs e) (fun ys e1 => I e1 ∧ All2 P xs ys) noX
  | [], e, h, _ => ⟨h, .nil⟩
  | x :: r, e, h, s => by
    have s1 := s x List.mem_cons_self e h
    show wR (match f x e with
      | .ok o e1 => match compGo f r e1 with
        | .ok ys e2 => R.ok (match o with | some y => y :: ys | none => ys) e2
        | _ => .bad
      | _ => .bad) _ noX
    cases hf : f x e with
    | bad => rw [hf] at s1; exact s1.elim
    | exn _ _ _ => rw [hf] at s1; exact s1.elim
    | ok o e1 =>
      rw [hf] at s1
      obtain ⟨h1, y, ey, hp⟩ := s1
      subst ey
      have ih := comp_all I P r e1 h1 fun z hz => s z (List.mem_cons_of_mem _ hz)
      show wR (match compGo f r e1 with
        | .ok ys e2 => R.ok (y :: ys) e2
        | _ => .bad) _ noX
      cases hc : compGo f r e1 with
      | bad => rw [hc] at ih; exact ih.elim
      | exn _ _ _ => rw [hc] at ih; exact ih.elim
      | ok ys e2 =>
        rw [hc] at ih
        exact ⟨ih.1, .cons hp ih.2⟩
/-- .. as a function of the items, some left out -/
theorem comp_fm {f : D → Env → R (Option D)} (I : Env → Prop) (h : D → Option D) : ∀ (xs : List D) (e : Env), I e → (∀ x ∈ xs, ∀ e, I e → wR (f x e) (fun o e1 => I e1 ∧ o = h x) noX) → wR (compGo f xs e) (fun ys e1 => I e1 ∧ ys = xs.filterMap h) noX
  | [], e, hi, _ => ⟨hi, rfl⟩
  | x :: r, e, hi, s => by
    have s1 := s x List.mem_cons_self e hi
    show wR (match f x e with
      | .ok o e1 => match compGo f r e1 with
        | .ok ys e2 => R.ok (match o with | some y => y :: ys | none => ys) e2
        | _ => .bad
      | _ => .bad) _ noX
    cases hf : f x e with
    | bad => rw [hf] at s1; exact s1.elim
    | exn _ _ _ => rw [hf] at s1; exact s1.elim
    | ok o e1 =>
      rw [hf] at s1
      obtain ⟨h1, ey⟩ := s1
      have ih := comp_fm I h r e1 h1 fun z hz => s z (List.mem_cons_of_mem _ hz)
      show wR (match compGo f r e1 with
        | .ok ys e2 => R.ok (match o with | some y => y :: ys | none => ys) e2
        | _ => .bad) _ noX
      cases hc : compGo f r e1 with
      | bad => rw [hc] at ih; exact ih.elim
      | exn _ _ _ => rw [hc] at ih; exact ih.elim
      | ok ys e2 =>
        rw [hc] at ih
        obtain ⟨i1, i2⟩ := ih
        subst ey i2
        refine ⟨i1, ?_⟩
        rw [List.filterMap_cons]
        cases h x <;> rfl
end DL


set_option Elab.async false
set_option linter.all false
set_option maxRecDepth 100000
set_option maxHeartbeats 2000000
/-! DL25: rules of data. -/
namespace DL
open PySem
section
variable {α : Type}
theorem wO_some {a : α} {Q : α → Prop} : wO (some a) Q = Q a := rfl
theorem wO_none {Q : α → Prop} : wO (none : Option α) Q = False := rfl
end
theorem lay_int (i : Int) : lay (.int i) = true := by simp [lay, SeqAt.shaped, PyData.canLay0, PyData.depth]
/-- arithmetic, truth, comparisons of data that is known -/
theorem rB : (∀ i j (Q : DV → Prop), wO (bin .add (.int i) (.int j)) Q = Q (.d (.int (i + j)))) ∧
    (∀ xs ys (Q : DV → Prop), wO (bin .add (.tuple xs) (.tuple ys)) Q = (xs.length + ys.length ≤ lim ∧ Q (.d (.tuple (xs ++ ys))))) ∧
    (∀ xs ys (Q : DV → Prop), wO (bin .add (.list xs) (.list ys)) Q = (xs.length + ys.length ≤ lim ∧ Q (.fr (xs ++ ys)))) ∧
    (∀ i j (Q : DV → Prop), wO (bin .sub (.int i) (.int j)) Q = Q (.d (.int (i - j)))) ∧
    (∀ i j (Q : DV → Prop), wO (bin .mul (.int i) (.int j)) Q = ((i.natAbs < 2 ^ 64 ∨ j.natAbs < 2 ^ 64 ∨ i.natAbs.log2 + j.natAbs.log2 < 1000000) ∧ Q (.d (.int (i * j))))) ∧
    (∀ i j (Q : DV → Prop), wO (bin .fdiv (.int i) (.int j)) Q = ((j ≠ 0 ∧ j.natAbs.log2 < 9000) ∧ Q (.d (.int (i.fdiv j))))) ∧
    (∀ i j (Q : DV → Prop), wO (bin .mod (.int i) (.int j)) Q = (j ≠ 0 ∧ Q (.d (.int (i.fmod j))))) ∧
    (∀ i j (Q : DV → Prop), wO (bin .pow (.int i) (.int j)) Q = ((0 ≤ j ∧ j ≤ 1000000 ∧ i.natAbs < 2 ^ 64) ∧ Q (.d (.int (i ^ j.toNat))))) ∧
    (∀ (Q : Bool → Prop), wO (tru .none) Q = Q false) ∧ (∀ b (Q : Bool → Prop), wO (tru (.bool b)) Q = Q b) ∧ (∀ i (Q : Bool → Prop), wO (tru (.int i)) Q = Q (i != 0)) ∧
    (∀ xs (Q : Bool → Prop), wO (tru (.list xs)) Q = Q (!xs.isEmpty)) ∧ (∀ xs (Q : Bool → Prop), wO (tru (.tuple xs)) Q = Q (!xs.isEmpty)) ∧
    (∀ i j (Q : Bool → Prop), wO (cmp .lt (.int i) (.int j)) Q = Q (decide (i < j))) ∧ (∀ i j (Q : Bool → Prop), wO (cmp .le (.int i) (.int j)) Q = Q (decide (i ≤ j))) ∧
    (∀ i j (Q : Bool → Prop), wO (cmp .gt (.int i) (.int j)) Q = Q (decide (j < i))) ∧ (∀ i j (Q : Bool → Prop), wO (cmp .ge (.int i) (.int j)) Q = Q (decide (j ≤ i))) ∧
    (∀ i j (Q : Bool → Prop), wO (cmp .eq (.int i) (.int j)) Q = Q (decide (i = j))) ∧ (∀ i j (Q : Bool → Prop), wO (cmp .ne (.int i) (.int j)) Q = Q (!decide (i = j))) ∧
    (∀ xs i (Q : D → Prop), wO (ix (.list xs) (.int i)) Q = wO (L2.atI xs i) Q) ∧ (∀ xs i (Q : D → Prop), wO (ix (.tuple xs) (.int i)) Q = wO (L2.atI xs i) Q) ∧
    (∀ xs i (Q : D → Prop), wO (ix (.dict [(.none, .list xs)]) (.int i)) Q = wO (L2.atI xs i) Q) ∧
    (∀ i (Q : Int → Prop), asInt (.int i) Q = Q i) ∧ (∀ xs (Q : List D → Prop), isD (.fr xs) Q = Q xs) ∧
    (∀ xs (Q : List D → Prop), wO (items? (.list xs)) Q = Q xs) ∧ (∀ xs (Q : List D → Prop), wO (items? (.tuple xs)) Q = Q xs) ∧
    (∀ i x e (Q : Env → Prop), wO (bindT (.nm i) x e) Q = Q (e.set i (.val x))) ∧ (∀ ts xs e (Q : Env → Prop), wO (bindT (.tp ts) (.tuple xs) e) Q = wO (bindTs ts xs e) Q) ∧ (∀ ts xs e (Q : Env → Prop), wO (bindT (.tp ts) (.list xs) e) Q = wO (bindTs ts xs e) Q) ∧
    (∀ e (Q : Env → Prop), wO (bindTs [] [] e) Q = Q e) ∧ (∀ t ts x xs e (Q : Env → Prop), wO (bindTs (t :: ts) (x :: xs) e) Q = wO (bindT t x e) fun e1 => wO (bindTs ts xs e1) Q) := by
  refine ⟨fun _ _ _ => rfl, fun _ _ _ => wO_ite, fun _ _ _ => wO_ite, fun _ _ _ => rfl, fun _ _ _ => wO_ite, fun _ _ _ => wO_ite, fun _ _ _ => wO_ite, fun _ _ _ => wO_ite, fun _ => rfl, fun _ _ => rfl, fun _ _ => rfl, fun _ _ => rfl, fun _ _ => rfl,
    fun _ _ _ => rfl, fun _ _ _ => rfl, fun _ _ _ => rfl, fun _ _ _ => rfl, fun i j Q => ?_, fun i j Q => ?_, fun _ _ _ => rfl, fun _ _ _ => rfl, fun _ _ _ => rfl, fun _ _ => rfl, fun _ _ => rfl, fun _ _ => rfl, fun _ _ => rfl, fun _ _ _ _ => rfl, fun _ _ _ _ => rfl, fun _ _ _ _ => rfl, fun _ _ => rfl, fun t ts x xs e Q => ?_⟩
  · have e : cmp .eq (.int i) (.int j) = some (decide (i = j)) := by
      simp only [cmp, lay_int, Bool.and_self, if_true, PyData.eqv]
      simp [Bool.beq_eq_decide_eq]
    rw [e, wO_some]
  · have e : cmp .ne (.int i) (.int j) = some (!decide (i = j)) := by
      simp only [cmp, lay_int, Bool.and_self, if_true, PyData.eqv]
      simp [Bool.beq_eq_decide_eq]
    rw [e, wO_some]
  · show wO (match bindT t x e with | some e1 => bindTs ts xs e1 | none => none) Q = _
    cases bindT t x e <;> rfl
/-- slots, by place -/
theorem rV : (∀ x e (Q : D → Prop), sV (.val x :: e) 0 Q = Q x) ∧ (∀ s e i (Q : D → Prop), sV (s :: e) (i + 1) Q = sV e i Q) ∧
    (∀ p xs e (Q : Bool → List D → Prop), sO (.own p xs :: e) 0 Q = Q p xs) ∧ (∀ s e i (Q : Bool → List D → Prop), sO (s :: e) (i + 1) Q = sO e i Q) := by
  refine ⟨fun _ _ _ => rfl, fun s e i Q => ?_, fun _ _ _ _ => rfl, fun s e i Q => ?_⟩
  · unfold sV; rw [List.getElem?_cons_succ]
  · unfold sO; rw [List.getElem?_cons_succ]
end DL
namespace DL
open PySem
theorem rZ : (∀ x, (DV.d x).fz = x) ∧ (∀ xs, (DV.fr xs).fz = .list xs) ∧ (∀ f Q e, nxt f Q (.nx e) = f e) ∧ (∀ f Q e, nxt f Q (.bk e) = Q (.bk e)) ∧ (∀ f Q e, nxt f Q (.ct e) = Q (.ct e)) ∧ (∀ f Q v e, nxt f Q (.rt v e) = Q (.rt v e)) ∧ (∀ f Q c ps e, nxt f Q (.exn c ps e) = Q (.exn c ps e)) ∧
    (∀ own Q X e, endP own Q X (.nx e) = finP own e (Q (.d .none))) ∧ (∀ own Q X v e, endP own Q X (.rt v e) = finP own e (Q v)) ∧ (∀ own Q X c ps e, endP own Q X (.exn c ps e) = finP own e (X c ps)) ∧
    (∀ e f, finP false e f = f []) ∧ (∀ e f, finP true e f = sO e 0 fun p o => p = true ∧ f o) ∧ (∀ (x : Slot) l y, (x :: l).set 0 y = y :: l) ∧ (∀ (x : Slot) l n y, (x :: l).set (n + 1) y = x :: l.set n y) ∧
    (∀ (p : Prop), (true = true ∧ p) = p) ∧ (∀ (a b : Prop), (if true = true then a else b) = a) ∧ (∀ (a b : Prop), (if false = true then a else b) = b) ∧
    (∀ (x : D) l (Q : D → Prop), wO (L2.atI (x :: l) 0) Q = Q x) ∧ (∀ (x y : D) l (Q : D → Prop), wO (L2.atI (x :: y :: l) 1) Q = Q y) ∧ (∀ (x y z : D) l (Q : D → Prop), wO (L2.atI (x :: y :: z :: l) 2) Q = Q z) ∧ (∀ (x y z t : D) l (Q : D → Prop), wO (L2.atI (x :: y :: z :: t :: l) 3) Q = Q t) := by
  refine ⟨fun _ => rfl, fun _ => rfl, fun _ _ _ => rfl, fun _ _ _ => rfl, fun _ _ _ => rfl, fun _ _ _ _ => rfl, fun _ _ _ _ _ => rfl, fun _ _ _ _ => rfl, fun _ _ _ _ _ => rfl, fun _ _ _ _ _ _ => rfl, fun _ _ => rfl, fun _ _ => rfl, fun _ _ _ => rfl, fun _ _ _ _ => rfl, fun p => by simp, fun _ _ => if_pos rfl, fun _ _ => if_neg Bool.false_ne_true,
    fun x l Q => ?_, fun x y l Q => ?_, fun x y z l Q => ?_, fun x y z t l Q => ?_⟩
  · have e : L2.atI (x :: l) 0 = some x := L2.atI_nat (j := 0) rfl
    rw [e, wO_some]
  · have e : L2.atI (x :: y :: l) 1 = some y := L2.atI_nat (j := 1) rfl
    rw [e, wO_some]
  · have e : L2.atI (x :: y :: z :: l) 2 = some z := L2.atI_nat (j := 2) rfl
    rw [e, wO_some]
  · have e : L2.atI (x :: y :: z :: t :: l) 3 = some t := L2.atI_nat (j := 3) rfl
    rw [e, wO_some]
end DL


set_option Elab.async false
set_option linter.all false
set_option maxRecDepth 100000
set_option maxHeartbeats 2000000
/-! DL26: calls by place; data that may be compared; equal data. -/
namespace DL
open PySem
theorem rC : (∀ f Γ xs Q X, cF (f :: Γ) 0 xs Q X = (f.own = false ∧ f.np = xs.length ∧ wF (f.run [] xs) (fun v _ => Q v) fun c ps _ => X c ps)) ∧ (∀ f Γ k xs Q X, cF (f :: Γ) (k + 1) xs Q X = cF Γ k xs Q X) ∧
    (∀ f Γ o xs Q X, cO (f :: Γ) 0 o xs Q X = (f.own = true ∧ f.np = xs.length + 1 ∧ wF (f.run o xs) Q X)) ∧ (∀ f Γ k o xs Q X, cO (f :: Γ) (k + 1) o xs Q X = cO Γ k o xs Q X) := by
  refine ⟨fun _ _ _ _ _ => rfl, fun f Γ k xs Q X => ?_, fun _ _ _ _ _ _ => rfl, fun f Γ k o xs Q X => ?_⟩
  · unfold cF; rw [List.getElem?_cons_succ]
  · unfold cO; rw [List.getElem?_cons_succ]
theorem rI : (∀ Q c ps e, sEx Q c ps e = Q (.exn c ps e)) ∧ (∀ (x : D) l (Q : Nat → Prop), wO (L2.ixN (x :: l).length 0) Q = Q 0) ∧ (∀ (x y : D) l (Q : Nat → Prop), wO (L2.ixN (x :: y :: l).length 1) Q = Q 1) ∧ (∀ (x y z : D) l (Q : Nat → Prop), wO (L2.ixN (x :: y :: z :: l).length 2) Q = Q 2) ∧
    (∀ (x : D) l y, (x :: l).set 0 y = y :: l) ∧ (∀ (x : D) l n y, (x :: l).set (n + 1) y = x :: l.set n y) ∧ (∀ p : Prop, (True ∧ p) = p) := by
  have h : ∀ (n j : Nat), j < n → L2.ixN n (j : Int) = some j := fun n j hj => by
    unfold L2.ixN
    rw [if_pos (by omega), if_pos (by omega)]
    rfl
  refine ⟨fun _ _ _ _ => rfl, fun x l Q => ?_, fun x y l Q => ?_, fun x y z l Q => ?_, fun _ _ _ => rfl, fun _ _ _ _ => rfl, fun p => by simp⟩
  · rw [show L2.ixN (x :: l).length 0 = some 0 from h _ 0 (by simp), wO_some]
  · rw [show L2.ixN (x :: y :: l).length 1 = some 1 from h _ 1 (by simp), wO_some]
  · rw [show L2.ixN (x :: y :: z :: l).length 2 = some 2 from h _ 2 (by simp), wO_some]
theorem rU : (∀ b (Q : DV → Prop), wO (bi .int [.bool b]) Q = Q (.d (.int (if b = true then 1 else 0)))) ∧ (∀ i (Q : DV → Prop), wO (bi .int [.int i]) Q = Q (.d (.int i))) ∧ (∀ i (Q : DV → Prop), wO (bi .abs [.int i]) Q = Q (.d (.int (if i < 0 then -i else i)))) ∧
    (∀ xs (Q : DV → Prop), wO (bi .len [.list xs]) Q = Q (.d (.int xs.length))) ∧ (∀ xs (Q : DV → Prop), wO (bi .len [.tuple xs]) Q = Q (.d (.int xs.length))) ∧ (∀ xs (Q : DV → Prop), wO (bi .len [.dict [(.none, .list xs)]]) Q = Q (.d (.int xs.length))) ∧
    (∀ xs (Q : DV → Prop), wO (bi .tuple [.list xs]) Q = Q (.d (.tuple xs))) ∧ (∀ xs (Q : DV → Prop), wO (bi .tuple [.tuple xs]) Q = Q (.d (.tuple xs))) ∧ (∀ xs (Q : DV → Prop), wO (bi .list [.list xs]) Q = Q (.fr xs)) ∧ (∀ xs (Q : DV → Prop), wO (bi .list [.tuple xs]) Q = Q (.fr xs)) ∧
    (∀ i j (Q : DV → Prop), wO (bi .min [.int i, .int j]) Q = Q (.d (.int (if j < i then j else i)))) ∧ (∀ i j (Q : DV → Prop), wO (bi .max [.int i, .int j]) Q = Q (.d (.int (if j > i then j else i)))) ∧
    (∀ i j (Q : List D → Prop), wO (rngD [.int i, .int j]) Q = ((big i && big j) = true ∧ Q (rngI i (j - i).toNat))) ∧ (∀ j (Q : List D → Prop), wO (rngD [.int j]) Q = (big j = true ∧ Q (rngI 0 j.toNat))) := by
  refine ⟨fun _ _ => rfl, fun _ _ => rfl, fun _ _ => rfl, fun _ _ => rfl, fun _ _ => rfl, fun _ _ => rfl, fun _ _ => rfl, fun _ _ => rfl, fun _ _ => rfl, fun _ _ => rfl, fun _ _ _ => rfl, fun _ _ _ => rfl, fun _ _ _ => wO_ite, fun _ _ => wO_ite⟩
theorem at_any {xs : List D} {i : Int} (h0 : 0 ≤ i) (h1 : i < xs.length) {Q : D → Prop} (q : ∀ d ∈ xs, Q d) : wO (L2.atI xs i) Q := by
  have hj : i.toNat < xs.length := by omega
  have e : L2.atI xs i = some xs[i.toNat] := by
    have h := L2.atI_nat (xs := xs) (j := i.toNat) (v := xs[i.toNat]) (by simp [hj])
    rw [Int.toNat_of_nonneg h0] at h
    exact h
  rw [e, wO_some]
  exact q _ (List.getElem_mem hj)
theorem at_nat {xs : List D} {i : Int} {j : Nat} {d : D} (h : i = (j : Int)) (hd : xs[j]? = some d) {Q : D → Prop} : wO (L2.atI xs i) Q = Q d := by
  subst h
  rw [L2.atI_nat hd, wO_some]
theorem l0 : 0 ≤ lim := by decide
theorem l1 : 1 ≤ lim := by decide
theorem l2 : 2 ≤ lim := by decide
theorem l3 : 3 ≤ lim := by decide
theorem l4 : 4 ≤ lim := by decide
theorem big_of {i : Int} (h : -1000000000 ≤ i) (h2 : i ≤ 1000000000) : big i = true := by
  unfold big
  simp only [Bool.and_eq_true, decide_eq_true_eq]
  exact ⟨h, h2⟩
/-- data that == takes, n levels deep at most -/
def LayN (n : Nat) (d : D) : Prop := d.canLay0 = true ∧ d.depth ≤ n
theorem LayN.lay {n : Nat} {d : D} (h : LayN n d) (hn : n ≤ 64) : lay d = true := by
  unfold DL.lay SeqAt.shaped
  rw [Bool.and_eq_true]
  exact ⟨h.1, decide_eq_true (Nat.le_trans h.2 hn)⟩
theorem layN_all {n : Nat} : ∀ {xs : List D}, (∀ x ∈ xs, LayN n x) → PyData.canLayAll0 xs = true ∧ PyData.depthAll xs ≤ n
  | [], _ => ⟨rfl, Nat.zero_le _⟩
  | x :: xs, h => by
    obtain ⟨h1, h2⟩ := h x List.mem_cons_self
    obtain ⟨h3, h4⟩ := layN_all fun y hy => h y (List.mem_cons_of_mem _ hy)
    exact ⟨by simp only [PyData.canLayAll0, h1, h3, Bool.and_self], by simp only [PyData.depthAll]; omega⟩
theorem layN_tup {n : Nat} {xs : List D} (h : ∀ x ∈ xs, LayN n x) : LayN (n + 1) (.tuple xs) := by
  obtain ⟨h1, h2⟩ := layN_all h
  exact ⟨by simp only [PyData.canLay0, h1], by simp only [PyData.depth]; omega⟩
theorem layN_lst {n : Nat} {xs : List D} (h : ∀ x ∈ xs, LayN n x) : LayN (n + 1) (.list xs) := by
  obtain ⟨h1, h2⟩ := layN_all h
  exact ⟨by simp only [PyData.canLay0, h1], by simp only [PyData.depth]; omega⟩
theorem layN_int (n : Nat) (i : Int) : LayN n (.int i) := ⟨rfl, Nat.zero_le _⟩
theorem layN_none (n : Nat) : LayN n .none := ⟨rfl, Nat.zero_le _⟩
theorem layN_bool (n : Nat) (b : Bool) : LayN n (.bool b) := ⟨rfl, Nat.zero_le _⟩
theorem LayN.up {m n : Nat} {d : D} (h : LayN m d) (e : m ≤ n) : LayN n d := ⟨h.1, Nat.le_trans h.2 e⟩
mutual
theorem eqv_refl : ∀ (d : D), d.canLay0 = true → PyData.eqv d d = true
  | .none, _ => rfl
  | .bool b, _ => by simp [PyData.eqv]
  | .int i, _ => by simp [PyData.eqv]
  | .str x, _ => by simp [PyData.eqv]
  | .list xs, h => by
    simp only [PyData.canLay0] at h
    simp only [PyData.eqv]
    exact eqvAll_refl xs h
  | .tuple xs, h => by
    simp only [PyData.canLay0] at h
    simp only [PyData.eqv]
    exact eqvAll_refl xs h
  | .dict _, h => by simp only [PyData.canLay0] at h; cases h
theorem eqvAll_refl : ∀ (xs : List D), PyData.canLayAll0 xs = true → PyData.eqvAll xs xs = true
  | [], _ => rfl
  | x :: xs, h => by
    simp only [PyData.canLayAll0, Bool.and_eq_true] at h
    simp only [PyData.eqvAll, eqv_refl x h.1, eqvAll_refl xs h.2, Bool.and_self]
end
/-- == and != of data that is the same -/
theorem cmp_eq_self {n : Nat} {d : D} (h : LayN n d) (hn : n ≤ 64) (Q : Bool → Prop) : wO (cmp .eq d d) Q = Q true := by
  show wO (if lay d && lay d then some (PyData.eqv d d) else none) Q = _
  rw [h.lay hn, Bool.and_self, if_pos rfl, wO_some, eqv_refl d h.1]
theorem cmp_ne_self {n : Nat} {d : D} (h : LayN n d) (hn : n ≤ 64) (Q : Bool → Prop) : wO (cmp .ne d d) Q = Q false := by
  show wO (if lay d && lay d then some (!PyData.eqv d d) else none) Q = _
  rw [h.lay hn, Bool.and_self, if_pos rfl, wO_some, eqv_refl d h.1]
  rfl
theorem cmp_mem_ints (a : Int) (ns : List Int) (Q : Bool → Prop) : wO (cmp .mem (.int a) (.list (ns.map PyData.int))) Q = Q (decide (a ∈ ns)) := by
  have hl : LayN 1 (.list (ns.map PyData.int)) := layN_lst fun x hx => by
    obtain ⟨i, _, e⟩ := List.mem_map.mp hx
    subst e
    exact layN_int 0 i
  show wO (if lay (.int a) && lay (.list (ns.map PyData.int)) then some ((ns.map PyData.int).any fun z => PyData.eqv z (.int a)) else none) Q = _
  rw [lay_int, hl.lay (by decide), Bool.and_self, if_pos rfl, wO_some]
  congr 1
  induction ns with
  | nil => simp
  | cons n ns ih =>
    have ih := ih (layN_lst fun x hx => by
      obtain ⟨i, _, e⟩ := List.mem_map.mp hx
      subst e
      exact layN_int 0 i)
    rw [List.map_cons, List.any_cons, ih]
    simp only [PyData.eqv, List.mem_cons]
    by_cases h : n = a
    · subst h; simp
    · have h' : ¬ a = n := fun z => h z.symm
      simp [h, h']
/-- in a tuple of ints -/
theorem cmp_nmem_tup (a : Int) (ns : List Int) (Q : Bool → Prop) : wO (cmp .nmem (.int a) (.tuple (ns.map PyData.int))) Q = Q (!decide (a ∈ ns)) := by
  have hf : (ns.map PyData.int).all flat = true := by
    rw [List.all_eq_true]
    intro x hx
    obtain ⟨i, _, e⟩ := List.mem_map.mp hx
    subst e
    rfl
  show wO (if flat (.int a) && (ns.map PyData.int).all flat then some (!(ns.map PyData.int).any fun z => PyData.eqv z (.int a)) else none) Q = _
  rw [hf, show flat (.int a) = true from rfl, Bool.and_self, if_pos rfl, wO_some]
  congr 2
  induction ns with
  | nil => simp
  | cons n ns ih =>
    have ih := ih (by rw [List.map_cons, List.all_cons, Bool.and_eq_true] at hf; exact hf.2)
    rw [List.map_cons, List.any_cons, ih]
    simp only [PyData.eqv, List.mem_cons]
    by_cases h : n = a
    · subst h; simp
    · have h' : ¬ a = n := fun z => h z.symm
      simp [h, h']
/-- a comprehension that keeps some of the items -/
theorem comp_sub {f : D → Env → R (Option D)} (I : Env → Prop) : ∀ (xs : List D) (e : Env), I e → (∀ x ∈ xs, ∀ e, I e → wR (f x e) (fun o e1 => I e1 ∧ (o = none ∨ o = some x)) noX) → wR (compGo f xs e) (fun ys e1 => I e1 ∧ ys.Sublist xs) noX
  | [], e, hi, _ => ⟨hi, .slnil⟩
  | x :: r, e, hi, s => by
    have s1 := s x List.mem_cons_self e hi
    show wR (match f x e with
      | .ok o e1 => match compGo f r e1 with
        | .ok ys e2 => R.ok (match o with | some y => y :: ys | none => ys) e2
        | _ => .bad
      | _ => .bad) _ noX
    cases hf : f x e with
    | bad => rw [hf] at s1; exact s1.elim
    | exn _ _ _ => rw [hf] at s1; exact s1.elim
    | ok o e1 =>
      rw [hf] at s1
      obtain ⟨h1, ey⟩ := s1
      have ih := comp_sub I r e1 h1 fun z hz => s z (List.mem_cons_of_mem _ hz)
      show wR (match compGo f r e1 with
        | .ok ys e2 => R.ok (match o with | some y => y :: ys | none => ys) e2
        | _ => .bad) _ noX
      cases hc : compGo f r e1 with
      | bad => rw [hc] at ih; exact ih.elim
      | exn _ _ _ => rw [hc] at ih; exact ih.elim
      | ok ys e2 =>
        rw [hc] at ih
        obtain ⟨i1, i2⟩ := ih
        refine ⟨i1, ?_⟩
        rcases ey with rfl | rfl
        · exact i2.cons _
        · exact i2.cons₂ _
/-! ### a body in two parts -/
def tk : Nat → Sxs → Sxs
  | 0, _ => .nil
  | _, .nil => .nil
  | n + 1, .cons s ss => .cons s (tk n ss)
def drp : Nat → Sxs → Sxs
  | 0, ss => ss
  | _, .nil => .nil
  | n + 1, .cons _ ss => drp n ss
theorem nxt_nxt {f : Env → Prop} {Q : RS → Prop} {r : RS} : nxt f (nxt f Q) r = nxt f Q r := by cases r <;> rfl
theorem split_at (G : List D) (Γ : List Fn) (Q : RS → Prop) : ∀ (n : Nat) (b : Sxs) (e : Env), wS (evSs G Γ b e) Q = wS (evSs G Γ (tk n b) e) (nxt (fun e1 => wS (evSs G Γ (drp n b) e1) Q) Q)
  | 0, b, e => by
    show _ = wS (evSs G Γ .nil e) _
    rw [(rS G Γ).1]
    cases b <;> rfl
  | n + 1, .nil, e => by
    show _ = wS (evSs G Γ .nil e) _
    rw [(rS G Γ).1, (rS G Γ).1]
    show _ = wS (evSs G Γ .nil e) Q
    rw [(rS G Γ).1]
  | n + 1, .cons s ss, e => by
    show _ = wS (evSs G Γ (.cons s (tk n ss)) e) (nxt (fun e1 => wS (evSs G Γ (drp n ss) e1) Q) Q)
    rw [(rS G Γ).2.1, (rS G Γ).2.1]
    congr 1
    funext r
    cases r with
    | nx e1 => exact split_at G Γ Q n ss e1
    | bk _ => rfl
    | ct _ => rfl
    | rt _ _ => rfl
    | exn _ _ _ => rfl
    | bad => rfl
end DL


set_option Elab.async false
set_option linter.all false
set_option maxRecDepth 100000
set_option maxHeartbeats 2000000
/-! DL27: comprehensions by their items alone. -/
namespace DL
open PySem
theorem wipeE_lenAt : ∀ (e : Env) (vs : List Nat) (i : Nat), (wipeE e vs)[i]? = if i ∈ vs then (e[i]?).map fun _ => Slot.un else e[i]?
  | e, [], i => by simp [wipeE]
  | e, v :: vs, i => by
    show ((wipeE e vs).set v .un)[i]? = _
    by_cases h : v = i
    · subst h
      rw [if_pos List.mem_cons_self]
      by_cases hl : v < e.length
      · rw [List.getElem?_set_self (by rw [wipeE_len]; exact hl), List.getElem?_eq_getElem hl]; rfl
      · rw [List.getElem?_eq_none (by rw [List.length_set, wipeE_len]; omega), List.getElem?_eq_none (by omega)]; rfl
    · rw [List.getElem?_set_ne h, wipeE_lenAt e vs i]
      by_cases h2 : i ∈ vs
      · rw [if_pos h2, if_pos (List.mem_cons_of_mem _ h2)]
      · rw [if_neg h2, if_neg (fun z => by rcases List.mem_cons.mp z with z | z; exact h z.symm; exact h2 z)]
theorem wipeE_wipeE (e : Env) (vs : List Nat) : wipeE (wipeE e vs) vs = wipeE e vs := by
  refine List.ext_getElem? fun i => ?_
  rw [wipeE_lenAt, wipeE_lenAt]
  split
  · cases e[i]? <;> rfl
  · rfl
theorem putBack_at {e0 e : Env} (hl : e0.length = e.length) : ∀ (vs : List Nat) (i : Nat), (putBack e0 e vs)[i]? = if i ∈ vs then e0[i]? else e[i]?
  | [], i => by simp [putBack]
  | v :: vs, i => by
    have ih := putBack_at hl vs i
    show (match e0[v]? with | some s => (putBack e0 e vs).set v s | none => putBack e0 e vs)[i]? = _
    have hlen : (putBack e0 e vs).length = e.length := putBack_len e0 e vs
    by_cases h : v = i
    · subst h
      rw [if_pos List.mem_cons_self]
      cases q : e0[v]? with
      | none =>
        have := List.getElem?_eq_none_iff.mp q
        show (putBack e0 e vs)[v]? = none
        exact List.getElem?_eq_none (by omega)
      | some s =>
        have := (List.getElem?_eq_some_iff.mp q).1
        show ((putBack e0 e vs).set v s)[v]? = some s
        exact List.getElem?_set_self (by omega)
    · have e2 : (match e0[v]? with | some s => (putBack e0 e vs).set v s | none => putBack e0 e vs)[i]? = (putBack e0 e vs)[i]? := by
        cases e0[v]? with
        | none => rfl
        | some s => exact List.getElem?_set_ne h
      rw [e2, ih]
      by_cases h2 : i ∈ vs
      · rw [if_pos h2, if_pos (List.mem_cons_of_mem _ h2)]
      · rw [if_neg h2, if_neg (fun z => by rcases List.mem_cons.mp z with z | z; exact h z.symm; exact h2 z)]
theorem putBack_wiped {e0 e e1 : Env} {vs : List Nat} (h : wipeE e vs = wipeE e1 vs) (hv : ∀ i ∈ vs, e0[i]? = e1[i]?) (hl : e0.length = e1.length) : putBack e0 e vs = e1 := by
  have l : e.length = e1.length := by rw [← wipeE_len e vs, h, wipeE_len]
  refine List.ext_getElem? fun i => ?_
  rw [putBack_at (by omega)]
  by_cases hi : i ∈ vs
  · rw [if_pos hi, hv i hi]
  · rw [if_neg hi]
    have q := congrArg (fun z : Env => z[i]?) h
    simp only [wipeE_lenAt, if_neg hi] at q
    exact q
section
variable {G : List D} {Γ : List Fn} {x0 : Ex} {vs : List Nat} {g : Tg} {c : Op} {e1 : Env} {xs : List D} {T : List D → Env → Prop}
theorem bodyC_wipe {z : D} {e : Env} (h : wipeE e vs = wipeE e1 vs) : bodyC G Γ x0 vs g c z e = bodyC G Γ x0 vs g c z (wipeE e1 vs) := by
  unfold bodyC
  rw [h, wipeE_wipeE]
/-- a comprehension whose turns change nothing but its own names -/
theorem comp_pure (h : D → Option D) (hp : plainAt e1 vs = true) (step : ∀ x ∈ xs, wR (bodyC G Γ x0 vs g c x (wipeE e1 vs)) (fun o e2 => wipeE e2 vs = wipeE e1 vs ∧ o = h x) noX)
    (q : ∀ e6, putBack e1 e6 vs = e1 → T (xs.filterMap h) e6) : plainAt e1 vs = true ∧ wR (compGo (bodyC G Γ x0 vs g c) xs (wipeE e1 vs)) T noX := by
  refine ⟨hp, wR.imp (comp_fm (fun e => wipeE e vs = wipeE e1 vs) h xs _ (wipeE_wipeE e1 vs) fun x hx e he => ?_) (fun ys e z => ?_) fun _ _ _ z => z⟩
  · rw [bodyC_wipe he]
    exact step x hx
  · obtain ⟨z1, rfl⟩ := z
    exact q e (putBack_wiped z1 (fun _ _ => rfl) rfl)
/-- .. that draw from a list of one's own at slot i -/
theorem comp_own (i : Nat) {p : Bool} {o0 : List D} (J : List D → Prop) (P : D → D → Prop) (hp : plainAt e1 vs = true) (h0 : e1 = e1.set i (.own p o0)) (hi : i ∉ vs) (j0 : J o0)
    (step : ∀ x ∈ xs, ∀ o, J o → wR (bodyC G Γ x0 vs g c x (wipeE (e1.set i (.own p o)) vs)) (fun r e2 => (∃ o', J o' ∧ wipeE e2 vs = wipeE (e1.set i (.own p o')) vs) ∧ ∃ y, r = some y ∧ P x y) noX)
    (q : ∀ ys o e6, All2 P xs ys → J o → putBack e1 e6 vs = e1.set i (.own p o) → T ys e6) : plainAt e1 vs = true ∧ wR (compGo (bodyC G Γ x0 vs g c) xs (wipeE e1 vs)) T noX := by
  refine ⟨hp, wR.imp (comp_all (fun e => ∃ o, J o ∧ wipeE e vs = wipeE (e1.set i (.own p o)) vs) P xs _ ⟨o0, j0, by rw [wipeE_wipeE, ← h0]⟩ fun x hx e he => ?_) (fun ys e z => ?_) fun _ _ _ z => z⟩
  · obtain ⟨o, jo, he⟩ := he
    rw [bodyC_wipe he]
    exact step x hx o jo
  · obtain ⟨⟨o, jo, z1⟩, z2⟩ := z
    exact q ys o e z2 jo (putBack_wiped z1 (fun k hk => by rw [List.getElem?_set_ne (fun y => hi (by rw [y]; exact hk))]) (by rw [List.length_set]))
/-- .. some left out -/
theorem comp_ownF (i : Nat) {p : Bool} {o0 : List D} (J : List D → Prop) (hp : plainAt e1 vs = true) (h0 : e1 = e1.set i (.own p o0)) (hi : i ∉ vs) (j0 : J o0)
    (step : ∀ x ∈ xs, ∀ o, J o → wR (bodyC G Γ x0 vs g c x (wipeE (e1.set i (.own p o)) vs)) (fun r e2 => (∃ o', J o' ∧ wipeE e2 vs = wipeE (e1.set i (.own p o')) vs) ∧ (r = none ∨ r = some x)) noX)
    (q : ∀ ys o e6, ys.Sublist xs → J o → putBack e1 e6 vs = e1.set i (.own p o) → T ys e6) : plainAt e1 vs = true ∧ wR (compGo (bodyC G Γ x0 vs g c) xs (wipeE e1 vs)) T noX := by
  refine ⟨hp, wR.imp (comp_sub (fun e => ∃ o, J o ∧ wipeE e vs = wipeE (e1.set i (.own p o)) vs) xs _ ⟨o0, j0, by rw [wipeE_wipeE, ← h0]⟩ fun x hx e he => ?_) (fun ys e z => ?_) fun _ _ _ z => z⟩
  · obtain ⟨o, jo, he⟩ := he
    rw [bodyC_wipe he]
    exact step x hx o jo
  · obtain ⟨⟨o, jo, z1⟩, z2⟩ := z
    exact q ys o e z2 jo (putBack_wiped z1 (fun k hk => by rw [List.getElem?_set_ne (fun y => hi (by rw [y]; exact hk))]) (by rw [List.length_set]))
end
end DL
namespace DL
open PySem
/-- looks at lists of one's own; copies of them -/
theorem rP {G : List D} {Γ : List Fn} : (∀ a e Q X, wR (evE G Γ (.peek a) e) Q X = wR (evE G Γ a (e.map Slot.fz)) (fun x _ => flat x.fz = true ∧ Q (.d x.fz) e) fun c ps _ => ps = [] ∧ X c ps e) ∧
    (∀ i e Q X, wR (evE G Γ (.olst i) e) Q X = sO e i fun _ xs => Q (.fr xs) e) := by
  refine ⟨fun a e Q X => ?_, fun i e Q X => ?_⟩
  · show wR (match evE G Γ a (e.map Slot.fz) with
      | .ok x _ => if flat x.fz then R.ok (DV.d x.fz) e else .bad
      | .exn c [] _ => .exn c [] e
      | _ => .bad) Q X = _
    cases evE G Γ a (e.map Slot.fz) with
    | bad => rfl
    | exn c ps e1 =>
      cases ps with
      | nil => show X c [] e = (([] : List D) = [] ∧ X c [] e); simp
      | cons p ps => show False = (p :: ps = [] ∧ X c (p :: ps) e); simp
    | ok x e1 =>
      show wR (if flat x.fz then R.ok (DV.d x.fz) e else .bad) Q X = (flat x.fz = true ∧ Q (.d x.fz) e)
      by_cases h : flat x.fz = true
      · rw [if_pos h]; simp [h, wR]
      · rw [if_neg h]; simp [h, wR]
  · show wR (match e[i]? with | some (.own _ xs) => R.ok (DV.fr xs) e | _ => .bad) Q X = _
    unfold sO
    cases e[i]? with
    | none => rfl
    | some s => cases s <;> rfl
theorem rQ : (∀ e, (Slot.un :: e).map Slot.fz = .un :: e.map Slot.fz) ∧ (∀ x e, (Slot.val x :: e).map Slot.fz = .val x :: e.map Slot.fz) ∧ (∀ p xs e, (Slot.own p xs :: e).map Slot.fz = .val (.list xs) :: e.map Slot.fz) ∧ (([] : Env).map Slot.fz = []) ∧
    (∀ b, flat (.bool b) = true) ∧ (∀ i, flat (.int i) = true) ∧ flat .none = true ∧ (∀ s, flat (.str s) = true) :=
  ⟨fun _ => rfl, fun _ _ => rfl, fun _ _ _ => rfl, rfl, fun _ => rfl, fun _ => rfl, rfl, fun _ => rfl⟩
end DL


set_option Elab.async false
set_option linter.all false
set_option maxRecDepth 100000
set_option maxHeartbeats 0
namespace K06
open PySem PySem.Spec PyProof.Rows L2 DL
/-! _law_pile(script, k) -/
def c__law_pile : Cf := ⟨["script", "k", "cell", "digits"], [], [], [], [], []⟩
def b__law_pile : Sxs := (.cons (.asg (.nm 2) (.lit (.int 0)))
    (.cons (.ife (.cmp .lt (.v 1) (.bi .len (.cons (.v 0) .nil))) (.cons (.asg (.nm 2) (.ix (.v 0) (.v 1)))
    .nil) .nil)
    (.cons (.asg (.nm 3) (.ix (.lst (.cons (.lit (.int 0)) (.cons (.bin .mod (.v 2) (.bin .mul (.bin .mul (.bin .pow (.lit (.int 10)) (.lit (.int 50))) (.bin .pow (.lit (.int 10)) (.lit (.int 50)))) (.bin .pow (.lit (.int 10)) (.lit (.int 50))))) .nil))) (.bi .int (.cons (.cmp .ge (.bi .abs (.cons (.v 2) .nil)) (.bin .pow (.lit (.int 10)) (.lit (.int 18)))) .nil))))
    (.cons (.ret (.lst (.cons (.v 3) (.cons (.bin .mod (.v 2) (.lit (.int 2147483647))) (.cons (.bin .mul (.lit (.int 97)) (.v 1)) (.cons (.cmp .lt (.v 1) (.lit (.int 2))) .nil))))))
    .nil))))
def g__law_pile : List D := []
def f__law_pile : Fn := ⟨"_law_pile", false, 2, evF g__law_pile [] false 4 b__law_pile⟩
theorem k__law_pile : ckSs c__law_pile (defScope (top 45)) b__law_pile (defBody (top 45)) = true := by decide +kernel
theorem s__law_pile : FnScope c__law_pile.N ["script", "k"] (defScope (top 45)) := ⟨rfl, rfl, rfl, by decide +kernel, rfl, by decide +kernel, by decide +kernel⟩
/-! _law_mixed(cell, k) -/
def c__law_mixed : Cf := ⟨["cell", "k", "number"], [], [], [], [], []⟩
def b__law_mixed : Sxs := (.cons (.asg (.nm 2) (.bin .mod (.bin .add (.bin .add (.bin .mul (.bin .mod (.v 0) (.lit (.int 2147483647))) (.lit (.int 48271))) (.bin .mul (.v 1) (.lit (.int 69621)))) (.lit (.int 11))) (.lit (.int 2147483647))))
    (.cons (.asg (.nm 2) (.bin .mod (.bin .mul (.v 2) (.v 2)) (.lit (.int 2147483629))))
    (.cons (.ret (.bin .fdiv (.bin .mod (.bin .mul (.v 2) (.v 2)) (.lit (.int 2147483587))) (.lit (.int 64))))
    .nil)))
def g__law_mixed : List D := []
def f__law_mixed : Fn := ⟨"_law_mixed", false, 2, evF g__law_mixed [] false 3 b__law_mixed⟩
theorem k__law_mixed : ckSs c__law_mixed (defScope (top 44)) b__law_mixed (defBody (top 44)) = true := by decide +kernel
theorem s__law_mixed : FnScope c__law_mixed.N ["cell", "k"] (defScope (top 44)) := ⟨rfl, rfl, rfl, by decide +kernel, rfl, by decide +kernel, by decide +kernel⟩
/-! _law_take(pile, many) -/
def c__law_take : Cf := ⟨["pile", "many", "digit"], [], ["_law_mixed"], [], [], []⟩
def b__law_take : Sxs := (.cons (.ife (.cmp .mem (.oix 0 (.lit (.int 0))) (.lst (.cons (.lit (.int 0)) (.cons (.neg (.lit (.int 1))) .nil)))) (.cons (.seti 0 (.lit (.int 2)) (.bin .add (.oix 0 (.lit (.int 2))) (.lit (.int 1))))
    (.cons (.ret (.bin .mod (.call 0 (.cons (.oix 0 (.lit (.int 1))) (.cons (.oix 0 (.lit (.int 2))) .nil))) (.v 1)))
    .nil)) .nil)
    (.cons (.asg (.nm 2) (.bin .mod (.oix 0 (.lit (.int 0))) (.v 1)))
    (.cons (.seti 0 (.lit (.int 0)) (.bin .fdiv (.oix 0 (.lit (.int 0))) (.v 1)))
    (.cons (.ret (.v 2))
    .nil))))
def g__law_take : List D := []
def f__law_take : Fn := ⟨"_law_take", true, 2, evF g__law_take [f__law_mixed] true 3 b__law_take⟩
theorem k__law_take : ckSs c__law_take (defScope (top 46)) b__law_take (defBody (top 46)) = true := by decide +kernel
theorem s__law_take : FnScope c__law_take.N ["pile", "many"] (defScope (top 46)) := ⟨rfl, rfl, rfl, by decide +kernel, rfl, by decide +kernel, by decide +kernel⟩
/-! _law_leap(pile, yard) -/
def c__law_leap : Cf := ⟨["pile", "yard", "walkers", "person"], [], ["_law_take"], [], [], []⟩
def b__law_leap : Sxs := (.cons (.asg (.nm 2) (.comp (.v 3) [3] (.nm 3) (.rng (.cons (.ix (.v 1) (.lit (.int 1))) .nil)) (.som (.cmp .nmem (.v 3) (.ix (.v 1) (.lit (.int 2)))))))
    (.cons (.asg (.nm 3) (.ix (.v 2) (.callo 0 0 (.cons (.bi .len (.cons (.v 2) .nil)) .nil))))
    (.cons (.ret (.tup (.cons (.v 3) (.cons (.bin .mod (.bin .add (.bin .add (.v 3) (.lit (.int 1))) (.callo 0 0 (.cons (.bin .sub (.ix (.v 1) (.lit (.int 1))) (.lit (.int 1))) .nil))) (.ix (.v 1) (.lit (.int 1)))) .nil))))
    .nil)))
def g__law_leap : List D := []
def f__law_leap : Fn := ⟨"_law_leap", true, 2, evF g__law_leap [f__law_take] true 4 b__law_leap⟩
theorem k__law_leap : ckSs c__law_leap (defScope (top 53)) b__law_leap (defBody (top 53)) = true := by decide +kernel
theorem s__law_leap : FnScope c__law_leap.N ["pile", "yard"] (defScope (top 53)) := ⟨rfl, rfl, rfl, by decide +kernel, rfl, by decide +kernel, by decide +kernel⟩
/-! _law_great(pile) -/
def c__law_great : Cf := ⟨["pile"], [], ["_law_take"], [], [], []⟩
def b__law_great : Sxs := (.cons (.ret (.bin .add (.bin .mul (.callo 0 0 (.cons (.bin .pow (.lit (.int 10)) (.lit (.int 5))) .nil)) (.bin .pow (.lit (.int 10)) (.lit (.int 5)))) (.callo 0 0 (.cons (.bin .pow (.lit (.int 10)) (.lit (.int 5))) .nil))))
    .nil)
def g__law_great : List D := []
def f__law_great : Fn := ⟨"_law_great", true, 1, evF g__law_great [f__law_take] true 1 b__law_great⟩
theorem k__law_great : ckSs c__law_great (defScope (top 47)) b__law_great (defBody (top 47)) = true := by decide +kernel
theorem s__law_great : FnScope c__law_great.N ["pile"] (defScope (top 47)) := ⟨rfl, rfl, rfl, by decide +kernel, rfl, by decide +kernel, by decide +kernel⟩
/-! _law_run(pile, yard) -/
def c__law_run : Cf := ⟨["pile", "yard", "kind", "times", "other", "person", "over", "k"], [], ["_law_take", "_law_leap", "_law_great"], [], [], []⟩
def b__law_run : Sxs := (.cons (.asg (.nm 2) (.callo 0 0 (.cons (.lit (.int 4)) .nil)))
    (.cons (.asg (.tp [(.nm 5), (.nm 6)]) (.callo 1 0 (.cons (.v 1) .nil)))
    (.cons (.asg (.nm 3) (.ix (.lst (.cons (.bin .add (.lit (.int 1)) (.callo 0 0 (.cons (.lit (.int 5)) .nil))) (.cons (.bin .add (.callo 2 0 .nil) (.lit (.int 1))) .nil))) (.bi .int (.cons (.and (.oix 0 (.lit (.int 3))) (.cmp .eq (.callo 0 0 (.cons (.lit (.int 8)) .nil)) (.lit (.int 0)))) .nil))))
    (.cons (.ife (.cmp .eq (.v 2) (.lit (.int 0))) (.cons (.ret (.tup (.cons (.bi .tuple (.cons (.comp (.callo 1 0 (.cons (.v 1) .nil)) [7] (.nm 7) (.rng (.cons (.bin .add (.lit (.int 1)) (.callo 0 0 (.cons (.lit (.int 4)) .nil))) .nil)) .non) .nil)) (.cons (.lit (.int 1)) .nil))))
    .nil) .nil)
    (.cons (.ife (.and (.cmp .eq (.v 2) (.lit (.int 1))) (.cmp .nmem (.v 6) (.ix (.v 1) (.lit (.int 2))))) (.cons (.ret (.tup (.cons (.tup (.cons (.tup (.cons (.v 5) (.cons (.v 6) .nil))) (.cons (.tup (.cons (.v 6) (.cons (.v 5) .nil))) .nil))) (.cons (.v 3) .nil))))
    .nil) .nil)
    (.cons (.asg (.nm 4) (.bin .mod (.bin .add (.bin .add (.v 5) (.lit (.int 1))) (.callo 0 0 (.cons (.bin .sub (.ix (.v 1) (.lit (.int 1))) (.lit (.int 1))) .nil))) (.ix (.v 1) (.lit (.int 1)))))
    (.cons (.ret (.tup (.cons (.bin .mul (.tup (.cons (.tup (.cons (.v 5) (.cons (.v 6) .nil))) (.cons (.tup (.cons (.v 5) (.cons (.v 4) .nil))) .nil))) (.bin .add (.lit (.int 1)) (.bin .mul (.callo 0 0 (.cons (.lit (.int 5)) .nil)) (.bi .int (.cons (.cmp .eq (.v 2) (.lit (.int 3))) .nil))))) (.cons (.v 3) .nil))))
    .nil)))))))
def g__law_run : List D := []
def f__law_run : Fn := ⟨"_law_run", true, 2, evF g__law_run [f__law_take, f__law_leap, f__law_great] true 8 b__law_run⟩
theorem k__law_run : ckSs c__law_run (defScope (top 54)) b__law_run (defBody (top 54)) = true := by decide +kernel
theorem s__law_run : FnScope c__law_run.N ["pile", "yard"] (defScope (top 54)) := ⟨rfl, rfl, rfl, by decide +kernel, rfl, by decide +kernel, by decide +kernel⟩
/-! _law_row(pile, yard, many) -/
def c__law_row : Cf := ⟨["pile", "yard", "many", "k"], [], ["_law_take", "_law_run"], [], [], []⟩
def b__law_row : Sxs := (.cons (.ret (.comp (.callo 1 0 (.cons (.v 1) .nil)) [3] (.nm 3) (.rng (.cons (.callo 0 0 (.cons (.bin .add (.v 2) (.lit (.int 1))) .nil)) .nil)) .non))
    .nil)
def g__law_row : List D := []
def f__law_row : Fn := ⟨"_law_row", true, 3, evF g__law_row [f__law_take, f__law_run] true 4 b__law_row⟩
theorem k__law_row : ckSs c__law_row (defScope (top 55)) b__law_row (defBody (top 55)) = true := by decide +kernel
theorem s__law_row : FnScope c__law_row.N ["pile", "yard", "many"] (defScope (top 55)) := ⟨rfl, rfl, rfl, by decide +kernel, rfl, by decide +kernel, by decide +kernel⟩
/-! _law_number(pile) -/
def c__law_number : Cf := ⟨["pile"], [], ["_law_take", "_law_great"], [], [], []⟩
def b__law_number : Sxs := (.cons (.ife (.and (.oix 0 (.lit (.int 3))) (.cmp .eq (.callo 0 0 (.cons (.lit (.int 16)) .nil)) (.lit (.int 0)))) (.cons (.ret (.bin .mul (.callo 1 0 .nil) (.bin .sub (.lit (.int 1)) (.bin .mul (.lit (.int 2)) (.callo 0 0 (.cons (.lit (.int 2)) .nil))))))
    .nil) .nil)
    (.cons (.ret (.bin .sub (.callo 0 0 (.cons (.lit (.int 13)) .nil)) (.lit (.int 6))))
    .nil))
def g__law_number : List D := []
def f__law_number : Fn := ⟨"_law_number", true, 1, evF g__law_number [f__law_take, f__law_great] true 1 b__law_number⟩
theorem k__law_number : ckSs c__law_number (defScope (top 48)) b__law_number (defBody (top 48)) = true := by decide +kernel
theorem s__law_number : FnScope c__law_number.N ["pile"] (defScope (top 48)) := ⟨rfl, rfl, rfl, by decide +kernel, rfl, by decide +kernel, by decide +kernel⟩
/-! _law_vector(pile, ways) -/
def c__law_vector : Cf := ⟨["pile", "ways", "size"], [], ["_law_number"], [], [], []⟩
def b__law_vector : Sxs := (.cons (.ret (.bi .tuple (.cons (.comp (.callo 0 0 .nil) [2] (.nm 2) (.seq (.v 1)) .non) .nil)))
    .nil)
def g__law_vector : List D := []
def f__law_vector : Fn := ⟨"_law_vector", true, 2, evF g__law_vector [f__law_number] true 3 b__law_vector⟩
theorem k__law_vector : ckSs c__law_vector (defScope (top 49)) b__law_vector (defBody (top 49)) = true := by decide +kernel
theorem s__law_vector : FnScope c__law_vector.N ["pile", "ways"] (defScope (top 49)) := ⟨rfl, rfl, rfl, by decide +kernel, rfl, by decide +kernel, by decide +kernel⟩
/-! _law_put(one, other, times) -/
def c__law_put : Cf := ⟨["one", "other", "times", "here", "more"], [], [], [], [], []⟩
def b__law_put : Sxs := (.cons (.ret (.bi .tuple (.cons (.comp (.bin .add (.v 3) (.bin .mul (.v 2) (.v 4))) [3, 4] (.tp [(.nm 3), (.nm 4)]) (.zip false (.cons (.v 0) (.cons (.v 1) .nil))) .non) .nil)))
    .nil)
def g__law_put : List D := []
def f__law_put : Fn := ⟨"_law_put", false, 3, evF g__law_put [] false 5 b__law_put⟩
theorem k__law_put : ckSs c__law_put (defScope (top 50)) b__law_put (defBody (top 50)) = true := by decide +kernel
theorem s__law_put : FnScope c__law_put.N ["one", "other", "times"] (defScope (top 50)) := ⟨rfl, rfl, rfl, by decide +kernel, rfl, by decide +kernel, by decide +kernel⟩
/-! _law_round(ways, vector) -/
def c__law_round : Cf := ⟨["ways", "vector", "size", "number"], [], [], [], [], []⟩
def b__law_round : Sxs := (.cons (.ret (.bi .tuple (.cons (.comp (.ix (.lst (.cons (.v 3) (.cons (.bin .mod (.v 3) (.bi .max (.cons (.v 2) (.cons (.lit (.int 1)) .nil)))) .nil))) (.bi .int (.cons (.cmp .gt (.v 2) (.lit (.int 0))) .nil))) [2, 3] (.tp [(.nm 2), (.nm 3)]) (.zip false (.cons (.v 0) (.cons (.v 1) .nil))) .non) .nil)))
    .nil)
def g__law_round : List D := []
def f__law_round : Fn := ⟨"_law_round", false, 2, evF g__law_round [] false 4 b__law_round⟩
theorem k__law_round : ckSs c__law_round (defScope (top 51)) b__law_round (defBody (top 51)) = true := by decide +kernel
theorem s__law_round : FnScope c__law_round.N ["ways", "vector"] (defScope (top 51)) := ⟨rfl, rfl, rfl, by decide +kernel, rfl, by decide +kernel, by decide +kernel⟩
/-! _law_standing(pile, ways, persons) -/
def c__law_standing : Cf := ⟨["pile", "ways", "persons", "start", "some", "odd", "found", "person", "place", "vector", "k"], [], ["_law_vector", "_law_take", "_law_put", "_law_round"], [], [], []⟩
def b__law_standing : Sxs := (.cons (.asg (.nm 3) (.callo 0 0 (.cons (.v 1) .nil)))
    (.cons (.asg (.nm 4) (.comp (.callo 0 0 (.cons (.v 1) .nil)) [10] (.nm 10) (.rng (.cons (.bin .add (.lit (.int 1)) (.callo 1 0 (.cons (.bi .len (.cons (.v 1) .nil)) .nil))) .nil)) .non))
    (.cons (.asg (.nm 5) (.callo 1 0 (.cons (.lit (.int 3)) .nil)))
    (.cons (.own 6 (.lst .nil))
    (.cons (.for_ (.nm 7) (.rng (.cons (.v 2) .nil)) (.cons (.asg (.nm 8) (.v 3))
    (.cons (.for_ (.nm 9) (.seq (.v 4)) (.cons (.asg (.nm 8) (.call 2 (.cons (.v 8) (.cons (.v 9) (.cons (.bin .mul (.bin .sub (.callo 1 0 (.cons (.lit (.int 7)) .nil)) (.lit (.int 3))) (.ix (.lst (.cons (.lit (.int 1)) (.cons (.lit (.int 1)) (.cons (.lit (.int 2)) .nil)))) (.v 5))) .nil)))))
    .nil))
    (.cons (.ife (.cmp .eq (.v 5) (.lit (.int 0))) (.cons (.asg (.nm 8) (.callo 0 0 (.cons (.v 1) .nil)))
    .nil) .nil)
    (.cons (.app 6 (.call 3 (.cons (.v 1) (.cons (.v 8) .nil))))
    .nil)))))
    (.cons (.ret (.bi .tuple (.cons (.frz 6) .nil)))
    .nil))))))
def g__law_standing : List D := []
def f__law_standing : Fn := ⟨"_law_standing", true, 3, evF g__law_standing [f__law_vector, f__law_take, f__law_put, f__law_round] true 11 b__law_standing⟩
theorem k__law_standing : ckSs c__law_standing (defScope (top 52)) b__law_standing (defBody (top 52)) = true := by decide +kernel
theorem s__law_standing : FnScope c__law_standing.N ["pile", "ways", "persons"] (defScope (top 52)) := ⟨rfl, rfl, rfl, by decide +kernel, rfl, by decide +kernel, by decide +kernel⟩
/-! _law_swinging(pile, ways, persons) -/
def c__law_swinging : Cf := ⟨["pile", "ways", "persons", "kind", "points", "one"], [], ["_law_take", "_law_standing"], [], [], []⟩
def b__law_swinging : Sxs := (.cons (.asg (.nm 3) (.callo 0 0 (.cons (.lit (.int 4)) .nil)))
    (.cons (.asg (.nm 4) (.callo 1 0 (.cons (.v 1) (.cons (.v 2) .nil))))
    (.cons (.ife (.cmp .eq (.v 3) (.lit (.int 0))) (.cons (.ret (.bin .mul (.tup (.cons (.ix (.v 4) (.lit (.int 0))) .nil)) (.v 2)))
    .nil) .nil)
    (.cons (.ife (.cmp .eq (.v 3) (.lit (.int 1))) (.cons (.ret (.bin .add (.tup (.cons (.ix (.v 4) (.lit (.int 0))) (.cons (.ix (.v 4) (.lit (.int 1))) .nil))) (.bin .mul (.tup (.cons (.ix (.v 4) (.lit (.int 0))) .nil)) (.bin .sub (.v 2) (.lit (.int 2))))))
    .nil) .nil)
    (.cons (.ife (.cmp .eq (.v 3) (.lit (.int 2))) (.cons (.ret (.bin .add (.sl (.v 4) .non (.som (.lit (.int 2)))) (.bi .tuple (.cons (.comp (.ix (.v 4) (.bin .mod (.v 5) (.lit (.int 2)))) [5] (.nm 5) (.rng (.cons (.bin .sub (.v 2) (.lit (.int 2))) .nil)) .non) .nil))))
    .nil) .nil)
    (.cons (.ret (.v 4))
    .nil))))))
def g__law_swinging : List D := []
def f__law_swinging : Fn := ⟨"_law_swinging", true, 3, evF g__law_swinging [f__law_take, f__law_standing] true 6 b__law_swinging⟩
theorem k__law_swinging : ckSs c__law_swinging (defScope (top 58)) b__law_swinging (defBody (top 58)) = true := by decide +kernel
theorem s__law_swinging : FnScope c__law_swinging.N ["pile", "ways", "persons"] (defScope (top 58)) := ⟨rfl, rfl, rfl, by decide +kernel, rfl, by decide +kernel, by decide +kernel⟩
/-! is_whole(thing) -/
def c_is_whole : Cf := ⟨["thing"], [], [], [], [], []⟩
def b_is_whole : Sxs := (.cons (.ret (.and (.bi (.isi .int) (.cons (.v 0) .nil)) (.no (.bi (.isi .bool) (.cons (.v 0) .nil)))))
    .nil)
def g_is_whole : List D := []
def f_is_whole : Fn := ⟨"is_whole", false, 1, evF g_is_whole [] false 1 b_is_whole⟩
theorem k_is_whole : ckSs c_is_whole (defScope (top 13)) b_is_whole (defBody (top 13)) = true := by decide +kernel
theorem s_is_whole : FnScope c_is_whole.N ["thing"] (defScope (top 13)) := ⟨rfl, rfl, rfl, by decide +kernel, rfl, by decide +kernel, by decide +kernel⟩
/-! are_ways(thing) -/
def c_are_ways : Cf := ⟨["thing", "size"], ["MOST_WAYS"], ["is_whole"], [], [], []⟩
def b_are_ways : Sxs := (.cons (.ife (.or (.no (.bi (.isi .tuple) (.cons (.v 0) .nil))) (.no (.chn .le .le (.lit (.int 1)) (.bi .len (.cons (.v 0) .nil)) (.gl 0)))) (.cons (.ret (.lit (.bool false)))
    .nil) .nil)
    (.cons (.ret (.bi .all (.cons (.comp (.and (.call 0 (.cons (.v 1) .nil)) (.or (.cmp .eq (.v 1) (.lit (.int 0))) (.cmp .ge (.v 1) (.lit (.int 2))))) [1] (.nm 1) (.seq (.v 0)) .non) .nil)))
    .nil))
def g_are_ways : List D := [.int 3]
def f_are_ways : Fn := ⟨"are_ways", false, 1, evF g_are_ways [f_is_whole] false 2 b_are_ways⟩
theorem k_are_ways : ckSs c_are_ways (defScope (top 14)) b_are_ways (defBody (top 14)) = true := by decide +kernel
theorem s_are_ways : FnScope c_are_ways.N ["thing"] (defScope (top 14)) := ⟨rfl, rfl, rfl, by decide +kernel, rfl, by decide +kernel, by decide +kernel⟩
/-! are_persons(thing) -/
def c_are_persons : Cf := ⟨["thing"], ["MOST_PERSONS"], ["is_whole"], [], [], []⟩
def b_are_persons : Sxs := (.cons (.ret (.and (.call 0 (.cons (.v 0) .nil)) (.chn .le .le (.lit (.int 2)) (.v 0) (.gl 0))))
    .nil)
def g_are_persons : List D := [.int 6]
def f_are_persons : Fn := ⟨"are_persons", false, 1, evF g_are_persons [f_is_whole] false 1 b_are_persons⟩
theorem k_are_persons : ckSs c_are_persons (defScope (top 15)) b_are_persons (defBody (top 15)) = true := by decide +kernel
theorem s_are_persons : FnScope c_are_persons.N ["thing"] (defScope (top 15)) := ⟨rfl, rfl, rfl, by decide +kernel, rfl, by decide +kernel, by decide +kernel⟩
/-! are_posts(persons, thing) -/
def c_are_posts : Cf := ⟨["persons", "thing", "post", "one", "other"], [], ["is_whole"], [], [], []⟩
def b_are_posts : Sxs := (.cons (.ife (.or (.no (.bi (.isi .tuple) (.cons (.v 1) .nil))) (.cmp .ge (.bi .len (.cons (.v 1) .nil)) (.v 0))) (.cons (.ret (.lit (.bool false)))
    .nil) .nil)
    (.cons (.ife (.no (.bi .all (.cons (.comp (.and (.call 0 (.cons (.v 2) .nil)) (.chn .le .lt (.lit (.int 0)) (.v 2) (.v 0))) [2] (.nm 2) (.seq (.v 1)) .non) .nil))) (.cons (.ret (.lit (.bool false)))
    .nil) .nil)
    (.cons (.ret (.bi .all (.cons (.comp (.cmp .lt (.v 3) (.v 4)) [3, 4] (.tp [(.nm 3), (.nm 4)]) (.zip false (.cons (.v 1) (.cons (.sl (.v 1) (.som (.lit (.int 1))) .non) .nil))) .non) .nil)))
    .nil)))
def g_are_posts : List D := []
def f_are_posts : Fn := ⟨"are_posts", false, 2, evF g_are_posts [f_is_whole] false 5 b_are_posts⟩
theorem k_are_posts : ckSs c_are_posts (defScope (top 16)) b_are_posts (defBody (top 16)) = true := by decide +kernel
theorem s_are_posts : FnScope c_are_posts.N ["persons", "thing"] (defScope (top 16)) := ⟨rfl, rfl, rfl, by decide +kernel, rfl, by decide +kernel, by decide +kernel⟩
/-! yard_wrong(thing) -/
def c_yard_wrong : Cf := ⟨["thing"], [], ["are_ways", "are_persons", "are_posts"], [], [], []⟩
def b_yard_wrong : Sxs := (.cons (.ife (.or (.no (.bi (.isi .tuple) (.cons (.v 0) .nil))) (.cmp .ne (.bi .len (.cons (.v 0) .nil)) (.lit (.int 3)))) (.cons (.ret (.tup (.cons (.lit (.str "yard")) .nil)))
    .nil) .nil)
    (.cons (.ife (.no (.call 0 (.cons (.ix (.v 0) (.lit (.int 0))) .nil))) (.cons (.ret (.tup (.cons (.lit (.str "ways")) .nil)))
    .nil) .nil)
    (.cons (.ife (.no (.call 1 (.cons (.ix (.v 0) (.lit (.int 1))) .nil))) (.cons (.ret (.tup (.cons (.lit (.str "persons")) .nil)))
    .nil) .nil)
    (.cons (.ret (.ife (.call 2 (.cons (.ix (.v 0) (.lit (.int 1))) (.cons (.ix (.v 0) (.lit (.int 2))) .nil))) (.lit .none) (.tup (.cons (.lit (.str "posts")) .nil))))
    .nil))))
def g_yard_wrong : List D := []
def f_yard_wrong : Fn := ⟨"yard_wrong", false, 1, evF g_yard_wrong [f_are_ways, f_are_persons, f_are_posts] false 1 b_yard_wrong⟩
theorem k_yard_wrong : ckSs c_yard_wrong (defScope (top 17)) b_yard_wrong (defBody (top 17)) = true := by decide +kernel
theorem s_yard_wrong : FnScope c_yard_wrong.N ["thing"] (defScope (top 17)) := ⟨rfl, rfl, rfl, by decide +kernel, rfl, by decide +kernel, by decide +kernel⟩
/-! must_be_yard(thing) -/
def c_must_be_yard : Cf := ⟨["thing"], [], ["yard_wrong"], ["NoYard"], [], []⟩
def b_must_be_yard : Sxs := (.cons (.ife (.cmp .notn (.call 0 (.cons (.v 0) .nil)) (.lit .none)) (.cons (.rai "NoYard" .nil)
    .nil) .nil)
    .nil)
def g_must_be_yard : List D := []
def f_must_be_yard : Fn := ⟨"must_be_yard", false, 1, evF g_must_be_yard [f_yard_wrong] false 1 b_must_be_yard⟩
theorem k_must_be_yard : ckSs c_must_be_yard (defScope (top 18)) b_must_be_yard (defBody (top 18)) = true := by decide +kernel
theorem s_must_be_yard : FnScope c_must_be_yard.N ["thing"] (defScope (top 18)) := ⟨rfl, rfl, rfl, by decide +kernel, rfl, by decide +kernel, by decide +kernel⟩
/-! is_vector(thing, many) -/
def c_is_vector : Cf := ⟨["thing", "many", "number"], [], ["is_whole"], [], [], []⟩
def b_is_vector : Sxs := (.cons (.ret (.and (.bi (.isi .tuple) (.cons (.v 0) .nil)) (.and (.cmp .eq (.bi .len (.cons (.v 0) .nil)) (.v 1)) (.bi .all (.cons (.comp (.call 0 (.cons (.v 2) .nil)) [2] (.nm 2) (.seq (.v 0)) .non) .nil)))))
    .nil)
def g_is_vector : List D := []
def f_is_vector : Fn := ⟨"is_vector", false, 2, evF g_is_vector [f_is_whole] false 3 b_is_vector⟩
theorem k_is_vector : ckSs c_is_vector (defScope (top 19)) b_is_vector (defBody (top 19)) = true := by decide +kernel
theorem s_is_vector : FnScope c_is_vector.N ["thing", "many"] (defScope (top 19)) := ⟨rfl, rfl, rfl, by decide +kernel, rfl, by decide +kernel, by decide +kernel⟩
/-! is_point(ways, thing) -/
def c_is_point : Cf := ⟨["ways", "thing", "size", "number"], [], ["is_vector"], [], [], []⟩
def b_is_point : Sxs := (.cons (.ife (.no (.call 0 (.cons (.v 1) (.cons (.bi .len (.cons (.v 0) .nil)) .nil)))) (.cons (.ret (.lit (.bool false)))
    .nil) .nil)
    (.cons (.ret (.bi .all (.cons (.comp (.or (.cmp .eq (.v 2) (.lit (.int 0))) (.chn .le .lt (.lit (.int 0)) (.v 3) (.v 2))) [2, 3] (.tp [(.nm 2), (.nm 3)]) (.zip true (.cons (.v 0) (.cons (.v 1) .nil))) .non) .nil)))
    .nil))
def g_is_point : List D := []
def f_is_point : Fn := ⟨"is_point", false, 2, evF g_is_point [f_is_vector] false 4 b_is_point⟩
theorem k_is_point : ckSs c_is_point (defScope (top 20)) b_is_point (defBody (top 20)) = true := by decide +kernel
theorem s_is_point : FnScope c_is_point.N ["ways", "thing"] (defScope (top 20)) := ⟨rfl, rfl, rfl, by decide +kernel, rfl, by decide +kernel, by decide +kernel⟩
/-! standing_in(yard, thing) -/
def c_standing_in : Cf := ⟨["yard", "thing", "odd", "k", "point"], [], ["is_point"], [], [], []⟩
def b_standing_in : Sxs := (.cons (.ife (.or (.no (.bi (.isi .tuple) (.cons (.v 1) .nil))) (.cmp .ne (.bi .len (.cons (.v 1) .nil)) (.ix (.v 0) (.lit (.int 1))))) (.cons (.ret (.tup (.cons (.lit (.str "standing")) .nil)))
    .nil) .nil)
    (.cons (.asg (.nm 2) (.comp (.v 3) [3, 4] (.tp [(.nm 3), (.nm 4)]) (.enum (.seq (.v 1))) (.som (.no (.call 0 (.cons (.ix (.v 0) (.lit (.int 0))) (.cons (.v 4) .nil)))))))
    (.cons (.ret (.ife (.v 2) (.tup (.cons (.lit (.str "point")) (.cons (.ix (.v 2) (.lit (.int 0))) .nil))) (.lit .none)))
    .nil)))
def g_standing_in : List D := []
def f_standing_in : Fn := ⟨"standing_in", false, 2, evF g_standing_in [f_is_point] false 5 b_standing_in⟩
theorem k_standing_in : ckSs c_standing_in (defScope (top 21)) b_standing_in (defBody (top 21)) = true := by decide +kernel
theorem s_standing_in : FnScope c_standing_in.N ["yard", "thing"] (defScope (top 21)) := ⟨rfl, rfl, rfl, by decide +kernel, rfl, by decide +kernel, by decide +kernel⟩
/-! must_be_standing(yard, thing) -/
def c_must_be_standing : Cf := ⟨["yard", "thing"], [], ["standing_in"], ["NoStanding"], [], []⟩
def b_must_be_standing : Sxs := (.cons (.ife (.cmp .notn (.call 0 (.cons (.v 0) (.cons (.v 1) .nil))) (.lit .none)) (.cons (.rai "NoStanding" .nil)
    .nil) .nil)
    .nil)
def g_must_be_standing : List D := []
def f_must_be_standing : Fn := ⟨"must_be_standing", false, 2, evF g_must_be_standing [f_standing_in] false 2 b_must_be_standing⟩
theorem k_must_be_standing : ckSs c_must_be_standing (defScope (top 22)) b_must_be_standing (defBody (top 22)) = true := by decide +kernel
theorem s_must_be_standing : FnScope c_must_be_standing.N ["yard", "thing"] (defScope (top 22)) := ⟨rfl, rfl, rfl, by decide +kernel, rfl, by decide +kernel, by decide +kernel⟩
/-! is_leap(persons, posts, thing) -/
def c_is_leap : Cf := ⟨["persons", "posts", "thing", "person"], [], ["is_vector"], [], [], []⟩
def b_is_leap : Sxs := (.cons (.ife (.or (.no (.call 0 (.cons (.v 2) (.cons (.lit (.int 2)) .nil)))) (.cmp .eq (.ix (.v 2) (.lit (.int 0))) (.ix (.v 2) (.lit (.int 1))))) (.cons (.ret (.lit (.bool false)))
    .nil) .nil)
    (.cons (.ret (.and (.bi .all (.cons (.comp (.chn .le .lt (.lit (.int 0)) (.v 3) (.v 0)) [3] (.nm 3) (.seq (.v 2)) .non) .nil)) (.cmp .nmem (.ix (.v 2) (.lit (.int 0))) (.v 1))))
    .nil))
def g_is_leap : List D := []
def f_is_leap : Fn := ⟨"is_leap", false, 3, evF g_is_leap [f_is_vector] false 4 b_is_leap⟩
theorem k_is_leap : ckSs c_is_leap (defScope (top 23)) b_is_leap (defBody (top 23)) = true := by decide +kernel
theorem s_is_leap : FnScope c_is_leap.N ["persons", "posts", "thing"] (defScope (top 23)) := ⟨rfl, rfl, rfl, by decide +kernel, rfl, by decide +kernel, by decide +kernel⟩
/-! unit(many) -/
def c_unit : Cf := ⟨["many", "row", "column"], [], [], [], [], []⟩
def b_unit : Sxs := (.cons (.ret (.comp (.comp (.bi .int (.cons (.cmp .eq (.v 1) (.v 2)) .nil)) [2] (.nm 2) (.rng (.cons (.v 0) .nil)) .non) [1] (.nm 1) (.rng (.cons (.v 0) .nil)) .non))
    .nil)
def g_unit : List D := []
def f_unit : Fn := ⟨"unit", false, 1, evF g_unit [] false 3 b_unit⟩
theorem k_unit : ckSs c_unit (defScope (top 9)) b_unit (defBody (top 9)) = true := by decide +kernel
theorem s_unit : FnScope c_unit.N ["many"] (defScope (top 9)) := ⟨rfl, rfl, rfl, by decide +kernel, rfl, by decide +kernel, by decide +kernel⟩
/-! table_of(persons, leaps) -/
def c_table_of : Cf := ⟨["persons", "leaps", "found", "person", "over", "here", "beyond"], [], ["unit"], [], [], []⟩
def b_table_of : Sxs := (.cons (.own 2 (.call 0 (.cons (.v 0) .nil)))
    (.cons (.for_ (.tp [(.nm 3), (.nm 4)]) (.seq (.v 1)) (.cons (.seti 2 (.v 3) (.comp (.bin .sub (.bin .mul (.lit (.int 2)) (.v 6)) (.v 5)) [5, 6] (.tp [(.nm 5), (.nm 6)]) (.zip true (.cons (.oix 2 (.v 3)) (.cons (.oix 2 (.v 4)) .nil))) .non))
    .nil))
    (.cons (.ret (.tk 2))
    .nil)))
def g_table_of : List D := []
def f_table_of : Fn := ⟨"table_of", false, 2, evF g_table_of [f_unit] false 7 b_table_of⟩
theorem k_table_of : ckSs c_table_of (defScope (top 27)) b_table_of (defBody (top 27)) = true := by decide +kernel
theorem s_table_of : FnScope c_table_of.N ["persons", "leaps"] (defScope (top 27)) := ⟨rfl, rfl, rfl, by decide +kernel, rfl, by decide +kernel, by decide +kernel⟩
/-! change_of(persons, leaps) -/
def c_change_of : Cf := ⟨["persons", "leaps", "found", "at", "line", "k", "number"], [], ["table_of"], [], [], []⟩
def b_change_of : Sxs := (.cons (.asg (.nm 2) (.call 0 (.cons (.v 0) (.cons (.v 1) .nil))))
    (.cons (.ret (.comp (.comp (.bin .sub (.v 6) (.bi .int (.cons (.cmp .eq (.v 5) (.v 3)) .nil))) [5, 6] (.tp [(.nm 5), (.nm 6)]) (.enum (.seq (.v 4))) .non) [3, 4] (.tp [(.nm 3), (.nm 4)]) (.enum (.seq (.v 2))) .non))
    .nil))
def g_change_of : List D := []
def f_change_of : Fn := ⟨"change_of", false, 2, evF g_change_of [f_table_of] false 7 b_change_of⟩
theorem k_change_of : ckSs c_change_of (defScope (top 28)) b_change_of (defBody (top 28)) = true := by decide +kernel
theorem s_change_of : FnScope c_change_of.N ["persons", "leaps"] (defScope (top 28)) := ⟨rfl, rfl, rfl, by decide +kernel, rfl, by decide +kernel, by decide +kernel⟩
/-! product(one, other) -/
def c_product : Cf := ⟨["one", "other", "columns", "at", "row", "line", "column", "a", "b"], [], [], [], [], []⟩
def b_product : Sxs := (.cons (.asg (.nm 2) (.comp (.comp (.ix (.v 5) (.v 3)) [5] (.nm 5) (.seq (.v 1)) .non) [3] (.nm 3) (.rng (.cons (.ife (.v 1) (.bi .len (.cons (.ix (.v 1) (.lit (.int 0))) .nil)) (.lit (.int 0))) .nil)) .non))
    (.cons (.ret (.comp (.comp (.bi .sum (.cons (.comp (.bin .mul (.v 7) (.v 8)) [7, 8] (.tp [(.nm 7), (.nm 8)]) (.zip true (.cons (.v 4) (.cons (.v 6) .nil))) .non) .nil)) [6] (.nm 6) (.seq (.v 2)) .non) [4] (.nm 4) (.seq (.v 0)) .non))
    .nil))
def g_product : List D := []
def f_product : Fn := ⟨"product", false, 2, evF g_product [] false 9 b_product⟩
theorem k_product : ckSs c_product (defScope (top 8)) b_product (defBody (top 8)) = true := by decide +kernel
theorem s_product : FnScope c_product.N ["one", "other"] (defScope (top 8)) := ⟨rfl, rfl, rfl, by decide +kernel, rfl, by decide +kernel, by decide +kernel⟩
/-! go_steadily(persons, leaps) -/
def c_go_steadily : Cf := ⟨["persons", "leaps", "change", "line"], [], ["change_of", "product"], [], [], []⟩
def b_go_steadily : Sxs := (.cons (.asg (.nm 2) (.call 0 (.cons (.v 0) (.cons (.v 1) .nil))))
    (.cons (.ret (.no (.bi .any (.cons (.comp (.bi .any (.cons (.v 3) .nil)) [3] (.nm 3) (.seq (.call 1 (.cons (.v 2) (.cons (.v 2) .nil)))) .non) .nil))))
    .nil))
def g_go_steadily : List D := []
def f_go_steadily : Fn := ⟨"go_steadily", false, 2, evF g_go_steadily [f_change_of, f_product] false 4 b_go_steadily⟩
theorem k_go_steadily : ckSs c_go_steadily (defScope (top 29)) b_go_steadily (defBody (top 29)) = true := by decide +kernel
theorem s_go_steadily : FnScope c_go_steadily.N ["persons", "leaps"] (defScope (top 29)) := ⟨rfl, rfl, rfl, by decide +kernel, rfl, by decide +kernel, by decide +kernel⟩
/-! run_in(persons, posts, at, thing) -/
def c_run_in : Cf := ⟨["persons", "posts", "at", "thing", "odd", "leaps", "times", "k", "leap"], ["MOST_LEAPS"], ["is_leap", "is_whole", "go_steadily"], [], [], []⟩
def b_run_in : Sxs := (.cons (.ife (.or (.no (.bi (.isi .tuple) (.cons (.v 3) .nil))) (.or (.cmp .ne (.bi .len (.cons (.v 3) .nil)) (.lit (.int 2))) (.no (.bi (.isi .tuple) (.cons (.ix (.v 3) (.lit (.int 0))) .nil))))) (.cons (.ret (.tup (.cons (.lit (.str "run")) (.cons (.v 2) .nil))))
    .nil) .nil)
    (.cons (.asg (.tp [(.nm 5), (.nm 6)]) (.v 3))
    (.cons (.ife (.no (.chn .le .le (.lit (.int 1)) (.bi .len (.cons (.v 5) .nil)) (.gl 0))) (.cons (.ret (.tup (.cons (.lit (.str "run")) (.cons (.v 2) .nil))))
    .nil) .nil)
    (.cons (.asg (.nm 4) (.comp (.v 7) [7, 8] (.tp [(.nm 7), (.nm 8)]) (.enum (.seq (.v 5))) (.som (.no (.call 0 (.cons (.v 0) (.cons (.v 1) (.cons (.v 8) .nil))))))))
    (.cons (.ife (.v 4) (.cons (.ret (.tup (.cons (.lit (.str "leap")) (.cons (.v 2) (.cons (.ix (.v 4) (.lit (.int 0))) .nil)))))
    .nil) .nil)
    (.cons (.ife (.or (.no (.call 1 (.cons (.v 6) .nil))) (.cmp .lt (.v 6) (.lit (.int 1)))) (.cons (.ret (.tup (.cons (.lit (.str "times")) (.cons (.v 2) .nil))))
    .nil) .nil)
    (.cons (.ret (.ife (.and (.cmp .gt (.v 6) (.lit (.int 1))) (.no (.call 2 (.cons (.v 0) (.cons (.v 5) .nil))))) (.tup (.cons (.lit (.str "steady")) (.cons (.v 2) .nil))) (.lit .none)))
    .nil)))))))
def g_run_in : List D := [.int 40]
def f_run_in : Fn := ⟨"run_in", false, 4, evF g_run_in [f_is_leap, f_is_whole, f_go_steadily] false 9 b_run_in⟩
theorem k_run_in : ckSs c_run_in (defScope (top 30)) b_run_in (defBody (top 30)) = true := by decide +kernel
theorem s_run_in : FnScope c_run_in.N ["persons", "posts", "at", "thing"] (defScope (top 30)) := ⟨rfl, rfl, rfl, by decide +kernel, rfl, by decide +kernel, by decide +kernel⟩
/-! row_in(persons, posts, thing) -/
def c_row_in : Cf := ⟨["persons", "posts", "thing", "at", "run", "wrong"], [], ["run_in"], [], [], []⟩
def b_row_in : Sxs := (.cons (.ife (.no (.bi (.isi .list) (.cons (.v 2) .nil))) (.cons (.ret (.tup (.cons (.lit (.str "row")) .nil)))
    .nil) .nil)
    (.cons (.for_ (.tp [(.nm 3), (.nm 4)]) (.enum (.seq (.v 2))) (.cons (.asg (.nm 5) (.call 0 (.cons (.v 0) (.cons (.v 1) (.cons (.v 3) (.cons (.v 4) .nil))))))
    (.cons (.ife (.cmp .notn (.v 5) (.lit .none)) (.cons (.ret (.v 5))
    .nil) .nil)
    .nil)))
    (.cons (.ret (.lit .none))
    .nil)))
def g_row_in : List D := []
def f_row_in : Fn := ⟨"row_in", false, 3, evF g_row_in [f_run_in] false 6 b_row_in⟩
theorem k_row_in : ckSs c_row_in (defScope (top 31)) b_row_in (defBody (top 31)) = true := by decide +kernel
theorem s_row_in : FnScope c_row_in.N ["persons", "posts", "thing"] (defScope (top 31)) := ⟨rfl, rfl, rfl, by decide +kernel, rfl, by decide +kernel, by decide +kernel⟩
/-! must_be_row(persons, posts, thing) -/
def c_must_be_row : Cf := ⟨["persons", "posts", "thing"], [], ["row_in"], ["NoRow"], [], []⟩
def b_must_be_row : Sxs := (.cons (.ife (.cmp .notn (.call 0 (.cons (.v 0) (.cons (.v 1) (.cons (.v 2) .nil)))) (.lit .none)) (.cons (.rai "NoRow" .nil)
    .nil) .nil)
    .nil)
def g_must_be_row : List D := []
def f_must_be_row : Fn := ⟨"must_be_row", false, 3, evF g_must_be_row [f_row_in] false 3 b_must_be_row⟩
theorem k_must_be_row : ckSs c_must_be_row (defScope (top 32)) b_must_be_row (defBody (top 32)) = true := by decide +kernel
theorem s_must_be_row : FnScope c_must_be_row.N ["persons", "posts", "thing"] (defScope (top 32)) := ⟨rfl, rfl, rfl, by decide +kernel, rfl, by decide +kernel, by decide +kernel⟩
/-! table_of_row(persons, row) -/
def c_table_of_row : Cf := ⟨["persons", "row", "found", "leaps", "times", "change", "rows", "line", "by", "one", "more"], [], ["unit", "product", "change_of"], [], [], []⟩
def b_table_of_row : Sxs := (.cons (.asg (.nm 2) (.call 0 (.cons (.v 0) .nil)))
    (.cons (.for_ (.tp [(.nm 3), (.nm 4)]) (.seq (.v 1)) (.cons (.asg (.nm 5) (.call 1 (.cons (.call 2 (.cons (.v 0) (.cons (.v 3) .nil))) (.cons (.v 2) .nil))))
    (.cons (.asg (.nm 6) (.lit_ (.zip true (.cons (.v 2) (.cons (.v 5) .nil)))))
    (.cons (.asg (.nm 2) (.comp (.comp (.bin .add (.v 9) (.bin .mul (.v 4) (.v 10))) [9, 10] (.tp [(.nm 9), (.nm 10)]) (.zip true (.cons (.v 7) (.cons (.v 8) .nil))) .non) [7, 8] (.tp [(.nm 7), (.nm 8)]) (.seq (.v 6)) .non))
    .nil))))
    (.cons (.ret (.v 2))
    .nil)))
def g_table_of_row : List D := []
def f_table_of_row : Fn := ⟨"table_of_row", false, 2, evF g_table_of_row [f_unit, f_product, f_change_of] false 11 b_table_of_row⟩
theorem k_table_of_row : ckSs c_table_of_row (defScope (top 34)) b_table_of_row (defBody (top 34)) = true := by decide +kernel
theorem s_table_of_row : FnScope c_table_of_row.N ["persons", "row"] (defScope (top 34)) := ⟨rfl, rfl, rfl, by decide +kernel, rfl, by decide +kernel, by decide +kernel⟩
/-! round_about(ways, vector) -/
def c_round_about : Cf := ⟨["ways", "vector", "size", "number"], [], [], [], [], []⟩
def b_round_about : Sxs := (.cons (.ret (.bi .tuple (.cons (.comp (.ife (.cmp .gt (.v 2) (.lit (.int 0))) (.bin .mod (.v 3) (.v 2)) (.v 3)) [2, 3] (.tp [(.nm 2), (.nm 3)]) (.zip true (.cons (.v 0) (.cons (.v 1) .nil))) .non) .nil)))
    .nil)
def g_round_about : List D := []
def f_round_about : Fn := ⟨"round_about", false, 2, evF g_round_about [] false 4 b_round_about⟩
theorem k_round_about : ckSs c_round_about (defScope (top 24)) b_round_about (defBody (top 24)) = true := by decide +kernel
theorem s_round_about : FnScope c_round_about.N ["ways", "vector"] (defScope (top 24)) := ⟨rfl, rfl, rfl, by decide +kernel, rfl, by decide +kernel, by decide +kernel⟩
/-! run_through(yard, standing, row) -/
def c_run_through : Cf := ⟨["yard", "standing", "row", "points", "leaps", "times", "change", "moved", "point", "line", "by", "way", "here", "more", "a"], [], ["change_of", "round_about"], [], [], []⟩
def b_run_through : Sxs := (.cons (.asg (.nm 3) (.comp (.bi .list (.cons (.v 8) .nil)) [8] (.nm 8) (.seq (.v 1)) .non))
    (.cons (.for_ (.tp [(.nm 4), (.nm 5)]) (.seq (.v 2)) (.cons (.asg (.nm 6) (.call 0 (.cons (.ix (.v 0) (.lit (.int 1))) (.cons (.v 4) .nil))))
    (.cons (.own 7 (.lst .nil))
    (.cons (.for_ (.tp [(.nm 9), (.nm 8)]) (.zip true (.cons (.v 6) (.cons (.v 3) .nil))) (.cons (.own 10 (.lst .nil))
    (.cons (.for_ (.nm 11) (.rng (.cons (.bi .len (.cons (.v 8) .nil)) .nil)) (.cons (.app 10 (.bin .mul (.v 5) (.bi .sum (.cons (.comp (.bin .mul (.v 14) (.ix (.v 12) (.v 11))) [14, 12] (.tp [(.nm 14), (.nm 12)]) (.zip true (.cons (.v 9) (.cons (.v 3) .nil))) .non) .nil))))
    .nil))
    (.cons (.app 7 (.comp (.bin .add (.v 12) (.v 13)) [12, 13] (.tp [(.nm 12), (.nm 13)]) (.zip true (.cons (.v 8) (.cons (.frz 10) .nil))) .non))
    .nil))))
    (.cons (.asg (.nm 3) (.comp (.bi .list (.cons (.call 1 (.cons (.ix (.v 0) (.lit (.int 0))) (.cons (.v 8) .nil))) .nil)) [8] (.nm 8) (.seq (.frz 7)) .non))
    .nil)))))
    (.cons (.ret (.bi .tuple (.cons (.comp (.bi .tuple (.cons (.v 8) .nil)) [8] (.nm 8) (.seq (.v 3)) .non) .nil)))
    .nil)))
def g_run_through : List D := []
def f_run_through : Fn := ⟨"run_through", false, 3, evF g_run_through [f_change_of, f_round_about] false 15 b_run_through⟩
theorem k_run_through : ckSs c_run_through (defScope (top 33)) b_run_through (defBody (top 33)) = true := by decide +kernel
theorem s_run_through : FnScope c_run_through.N ["yard", "standing", "row"] (defScope (top 33)) := ⟨rfl, rfl, rfl, by decide +kernel, rfl, by decide +kernel, by decide +kernel⟩
/-! on_lines(ways, standing) -/
def c_on_lines : Cf := ⟨["ways", "standing", "point", "size", "number"], [], [], [], [], []⟩
def b_on_lines : Sxs := (.cons (.ret (.bi .tuple (.cons (.comp (.bi .tuple (.cons (.comp (.v 4) [3, 4] (.tp [(.nm 3), (.nm 4)]) (.zip true (.cons (.v 0) (.cons (.v 2) .nil))) (.som (.cmp .eq (.v 3) (.lit (.int 0))))) .nil)) [2] (.nm 2) (.seq (.v 1)) .non) .nil)))
    .nil)
def g_on_lines : List D := []
def f_on_lines : Fn := ⟨"on_lines", false, 2, evF g_on_lines [] false 5 b_on_lines⟩
theorem k_on_lines : ckSs c_on_lines (defScope (top 41)) b_on_lines (defBody (top 41)) = true := by decide +kernel
theorem s_on_lines : FnScope c_on_lines.N ["ways", "standing"] (defScope (top 41)) := ⟨rfl, rfl, rfl, by decide +kernel, rfl, by decide +kernel, by decide +kernel⟩
/-! led_by_table(ways, table, standing) -/
def c_led_by_table : Cf := ⟨["ways", "table", "standing", "found", "line", "place", "way", "a", "point"], [], ["round_about"], [], [], []⟩
def b_led_by_table : Sxs := (.cons (.own 3 (.lst .nil))
    (.cons (.for_ (.nm 4) (.seq (.v 1)) (.cons (.asg (.nm 5) (.comp (.bi .sum (.cons (.comp (.bin .mul (.v 7) (.ix (.v 8) (.v 6))) [7, 8] (.tp [(.nm 7), (.nm 8)]) (.zip true (.cons (.v 4) (.cons (.v 2) .nil))) .non) .nil)) [6] (.nm 6) (.rng (.cons (.bi .len (.cons (.v 0) .nil)) .nil)) .non))
    (.cons (.app 3 (.call 0 (.cons (.v 0) (.cons (.v 5) .nil))))
    .nil)))
    (.cons (.ret (.bi .tuple (.cons (.frz 3) .nil)))
    .nil)))
def g_led_by_table : List D := []
def f_led_by_table : Fn := ⟨"led_by_table", false, 3, evF g_led_by_table [f_round_about] false 9 b_led_by_table⟩
theorem k_led_by_table : ckSs c_led_by_table (defScope (top 40)) b_led_by_table (defBody (top 40)) = true := by decide +kernel
theorem s_led_by_table : FnScope c_led_by_table.N ["ways", "table", "standing"] (defScope (top 40)) := ⟨rfl, rfl, rfl, by decide +kernel, rfl, by decide +kernel, by decide +kernel⟩
/-! again(yard, standing, row, most) -/
def c_again : Cf := ⟨["yard", "standing", "row", "most", "table", "twice", "found", "times"], ["MOST"], ["must_be_yard", "must_be_standing", "must_be_row", "is_whole", "table_of_row", "run_through", "on_lines", "led_by_table"], ["NoNumber"], [], []⟩
def b_again : Sxs := (.cons (.ex (.call 0 (.cons (.v 0) .nil)))
    (.cons (.ex (.call 1 (.cons (.v 0) (.cons (.v 1) .nil))))
    (.cons (.ex (.call 2 (.cons (.ix (.v 0) (.lit (.int 1))) (.cons (.ix (.v 0) (.lit (.int 2))) (.cons (.v 2) .nil)))))
    (.cons (.ife (.or (.no (.call 3 (.cons (.v 3) .nil))) (.no (.chn .le .le (.lit (.int 1)) (.v 3) (.gl 0)))) (.cons (.rai "NoNumber" .nil)
    .nil) .nil)
    (.cons (.asg (.nm 4) (.call 4 (.cons (.ix (.v 0) (.lit (.int 1))) (.cons (.v 2) .nil))))
    (.cons (.asg (.nm 5) (.call 5 (.cons (.v 0) (.cons (.call 5 (.cons (.v 0) (.cons (.v 1) (.cons (.v 2) .nil)))) (.cons (.v 2) .nil)))))
    (.cons (.ife (.cmp .ne (.call 6 (.cons (.ix (.v 0) (.lit (.int 0))) (.cons (.v 5) .nil))) (.call 6 (.cons (.ix (.v 0) (.lit (.int 0))) (.cons (.v 1) .nil)))) (.cons (.ret (.lit .none))
    .nil) .nil)
    (.cons (.asg (.nm 6) (.v 1))
    (.cons (.for_ (.nm 7) (.rng (.cons (.lit (.int 1)) (.cons (.bin .add (.v 3) (.lit (.int 1))) .nil))) (.cons (.asg (.nm 6) (.call 7 (.cons (.ix (.v 0) (.lit (.int 0))) (.cons (.v 4) (.cons (.v 6) .nil)))))
    (.cons (.ife (.cmp .eq (.v 6) (.v 1)) (.cons (.ret (.v 7))
    .nil) .nil)
    .nil)))
    (.cons .unk
    .nil))))))))))
def g_again : List D := [.int 10000]
def f0_again : Fn := ⟨"again", false, 4, evF g_again [f_must_be_yard, f_must_be_standing, f_must_be_row, f_is_whole, f_table_of_row, f_run_through, f_on_lines, f_led_by_table] false 8 b_again⟩
def f_again : Fn := capFn f0_again [.int 10000]
theorem k_again : ckSs c_again (defScope (top 42)) b_again (defBody (top 42)) = true := by decide +kernel
theorem s_again : FnScope c_again.N ["yard", "standing", "row", "most"] (defScope (top 42)) := ⟨rfl, rfl, rfl, by decide +kernel, rfl, by decide +kernel, by decide +kernel⟩
/-! done(yard, standing, row) -/
def c_done : Cf := ⟨["yard", "standing", "row"], [], ["must_be_yard", "must_be_standing", "must_be_row", "run_through"], [], [], []⟩
def b_done : Sxs := (.cons (.ex (.call 0 (.cons (.v 0) .nil)))
    (.cons (.ex (.call 1 (.cons (.v 0) (.cons (.v 1) .nil))))
    (.cons (.ex (.call 2 (.cons (.ix (.v 0) (.lit (.int 1))) (.cons (.ix (.v 0) (.lit (.int 2))) (.cons (.v 2) .nil)))))
    (.cons (.ret (.call 3 (.cons (.v 0) (.cons (.v 1) (.cons (.v 2) .nil)))))
    .nil))))
def g_done : List D := []
def f_done : Fn := ⟨"done", false, 3, evF g_done [f_must_be_yard, f_must_be_standing, f_must_be_row, f_run_through] false 3 b_done⟩
theorem k_done : ckSs c_done (defScope (top 35)) b_done (defBody (top 35)) = true := by decide +kernel
theorem s_done : FnScope c_done.N ["yard", "standing", "row"] (defScope (top 35)) := ⟨rfl, rfl, rfl, by decide +kernel, rfl, by decide +kernel, by decide +kernel⟩
/-! back_row(row) -/
def c_back_row : Cf := ⟨["row", "leaps", "times"], [], [], [], [], []⟩
def b_back_row : Sxs := (.cons (.ret (.comp (.tup (.cons (.rsl (.v 1)) (.cons (.v 2) .nil))) [1, 2] (.tp [(.nm 1), (.nm 2)]) (.rev (.v 0)) .non))
    .nil)
def g_back_row : List D := []
def f_back_row : Fn := ⟨"back_row", false, 1, evF g_back_row [] false 3 b_back_row⟩
theorem k_back_row : ckSs c_back_row (defScope (top 36)) b_back_row (defBody (top 36)) = true := by decide +kernel
theorem s_back_row : FnScope c_back_row.N ["row"] (defScope (top 36)) := ⟨rfl, rfl, rfl, by decide +kernel, rfl, by decide +kernel, by decide +kernel⟩
/-! back(row) -/
def c_back : Cf := ⟨["row"], [], ["must_be_row", "back_row"], [], [], []⟩
def b_back : Sxs := (.cons (.ex (.call 0 (.cons (.lit (.int 6)) (.cons (.tup .nil) (.cons (.v 0) .nil)))))
    (.cons (.ret (.call 1 (.cons (.v 0) .nil)))
    .nil))
def g_back : List D := []
def f_back : Fn := ⟨"back", false, 1, evF g_back [f_must_be_row, f_back_row] false 1 b_back⟩
theorem k_back : ckSs c_back (defScope (top 37)) b_back (defBody (top 37)) = true := by decide +kernel
theorem s_back : FnScope c_back.N ["row"] (defScope (top 37)) := ⟨rfl, rfl, rfl, by decide +kernel, rfl, by decide +kernel, by decide +kernel⟩
/-! _law_lines_right(yard, points, row, told) -/
def c__law_lines_right : Cf := ⟨["yard", "points", "row", "told", "here", "times", "twice"], [], ["done", "again", "back"], [], [], []⟩
def b__law_lines_right : Sxs := (.cons (.asg (.nm 4) (.v 1))
    (.cons (.for_ (.nm 5) (.rng (.cons (.lit (.int 1)) (.cons (.lit (.int 9)) .nil))) (.cons (.asg (.nm 4) (.call 0 (.cons (.v 0) (.cons (.v 4) (.cons (.v 2) .nil)))))
    (.cons (.ife (.cmp .ne (.cmp .eq (.v 4) (.v 1)) (.and (.cmp .notn (.v 3) (.lit .none)) (.cmp .eq (.bin .mod (.v 5) (.or (.v 3) (.lit (.int 1)))) (.lit (.int 0))))) (.cons (.ret (.lit (.bool false)))
    .nil) .nil)
    .nil)))
    (.cons (.asg (.nm 6) (.call 1 (.cons (.v 0) (.cons (.v 1) (.cons (.bin .add (.v 2) (.v 2)) .nil)))))
    (.cons (.ret (.and (.cmp .eq (.v 6) (.ix (.lst (.cons (.lit (.int 1)) (.cons (.lit .none) .nil))) (.bi .int (.cons (.cmp .isn (.v 3) (.lit .none)) .nil)))) (.cmp .eq (.call 1 (.cons (.v 0) (.cons (.v 1) (.cons (.call 2 (.cons (.v 2) .nil)) .nil)))) (.v 3))))
    .nil))))
def g__law_lines_right : List D := []
def f__law_lines_right : Fn := ⟨"_law_lines_right", false, 4, evF g__law_lines_right [f_done, f_again, f_back] false 7 b__law_lines_right⟩
theorem k__law_lines_right : ckSs c__law_lines_right (defScope (top 60)) b__law_lines_right (defBody (top 60)) = true := by decide +kernel
theorem s__law_lines_right : FnScope c__law_lines_right.N ["yard", "points", "row", "told"] (defScope (top 60)) := ⟨rfl, rfl, rfl, by decide +kernel, rfl, by decide +kernel, by decide +kernel⟩
/-! _law_whole(thing) -/
def c__law_whole : Cf := ⟨["thing"], [], [], [], [], []⟩
def b__law_whole : Sxs := (.cons (.ret (.and (.bi (.isi .int) (.cons (.v 0) .nil)) (.no (.bi (.isi .bool) (.cons (.v 0) .nil)))))
    .nil)
def g__law_whole : List D := []
def f__law_whole : Fn := ⟨"_law_whole", false, 1, evF g__law_whole [] false 1 b__law_whole⟩
theorem k__law_whole : ckSs c__law_whole (defScope (top 56)) b__law_whole (defBody (top 56)) = true := by decide +kernel
theorem s__law_whole : FnScope c__law_whole.N ["thing"] (defScope (top 56)) := ⟨rfl, rfl, rfl, by decide +kernel, rfl, by decide +kernel, by decide +kernel⟩
/-! _law_round_so(ring, places, row, told) -/
def c__law_round_so : Cf := ⟨["ring", "places", "row", "told", "here", "times"], [], ["_law_whole", "done"], [], [], []⟩
def b__law_round_so : Sxs := (.cons (.ife (.no (.call 0 (.cons (.v 3) .nil))) (.cons (.ret (.lit (.bool false)))
    .nil) .nil)
    (.cons (.asg (.nm 4) (.v 1))
    (.cons (.for_ (.nm 5) (.rng (.cons (.lit (.int 1)) (.cons (.bin .add (.bi .min (.cons (.v 3) (.cons (.lit (.int 60)) .nil))) (.lit (.int 1))) .nil))) (.cons (.asg (.nm 4) (.call 1 (.cons (.v 0) (.cons (.v 4) (.cons (.v 2) .nil)))))
    (.cons (.ife (.cmp .ne (.cmp .eq (.v 4) (.v 1)) (.cmp .eq (.v 5) (.v 3))) (.cons (.ret (.lit (.bool false)))
    .nil) .nil)
    .nil)))
    (.cons (.ret (.lit (.bool true)))
    .nil))))
def g__law_round_so : List D := []
def f__law_round_so : Fn := ⟨"_law_round_so", false, 4, evF g__law_round_so [f__law_whole, f_done] false 6 b__law_round_so⟩
theorem k__law_round_so : ckSs c__law_round_so (defScope (top 61)) b__law_round_so (defBody (top 61)) = true := by decide +kernel
theorem s__law_round_so : FnScope c__law_round_so.N ["ring", "places", "row", "told"] (defScope (top 61)) := ⟨rfl, rfl, rfl, by decide +kernel, rfl, by decide +kernel, by decide +kernel⟩
/-! _law_divisor(one, other) -/
def fuel__law_divisor_0 : DL.Env → Nat := fun e => match (e[1]? : Option DL.Slot) with | some (.val (.int x)) => x.natAbs + 1 | _ => 1
def c__law_divisor : Cf := ⟨["one", "other"], [], [], [], [], []⟩
def b__law_divisor : Sxs := (.cons (.whil fuel__law_divisor_0 (.cmp .ne (.v 1) (.lit (.int 0))) (.cons (.asg (.tp [(.nm 0), (.nm 1)]) (.tup (.cons (.v 1) (.cons (.bin .mod (.v 0) (.v 1)) .nil))))
    .nil))
    (.cons (.ret (.bi .abs (.cons (.v 0) .nil)))
    .nil))
def g__law_divisor : List D := []
def f__law_divisor : Fn := ⟨"_law_divisor", false, 2, evF g__law_divisor [] false 2 b__law_divisor⟩
theorem k__law_divisor : ckSs c__law_divisor (defScope (top 57)) b__law_divisor (defBody (top 57)) = true := by decide +kernel
theorem s__law_divisor : FnScope c__law_divisor.N ["one", "other"] (defScope (top 57)) := ⟨rfl, rfl, rfl, by decide +kernel, rfl, by decide +kernel, by decide +kernel⟩
/-! _law_least(one, other) -/
def c__law_least : Cf := ⟨["one", "other"], [], ["_law_divisor"], [], [], []⟩
def b__law_least : Sxs := (.cons (.ret (.bin .fdiv (.bin .mul (.v 0) (.v 1)) (.call 0 (.cons (.v 0) (.cons (.v 1) .nil)))))
    .nil)
def g__law_least : List D := []
def f__law_least : Fn := ⟨"_law_least", false, 2, evF g__law_least [f__law_divisor] false 2 b__law_least⟩
theorem k__law_least : ckSs c__law_least (defScope (top 59)) b__law_least (defBody (top 59)) = true := by decide +kernel
theorem s__law_least : FnScope c__law_least.N ["one", "other"] (defScope (top 59)) := ⟨rfl, rfl, rfl, by decide +kernel, rfl, by decide +kernel, by decide +kernel⟩
/-! law(script) -/
def c_law : Cf := ⟨["script", "k", "pile", "persons", "yard", "row", "points", "handed", "told", "ring", "places", "round_told", "both", "there", "due", "leaps", "times", "one", "other"], [], ["_law_pile", "_law_take", "_law_row", "_law_swinging", "again", "_law_lines_right", "_law_round_so", "_law_least", "back"], [], [], []⟩
def b_law : Sxs := (.cons (.for_ (.nm 1) (.rng (.cons (.lit (.int 8)) .nil)) (.cons (.own 2 (.call 0 (.cons (.v 0) (.cons (.v 1) .nil))))
    (.cons (.asg (.nm 3) (.bin .add (.lit (.int 2)) (.callo 1 2 (.cons (.lit (.int 4)) .nil))))
    (.cons (.asg (.nm 4) (.tup (.cons (.bin .mul (.tup (.cons (.lit (.int 0)) .nil)) (.bin .add (.lit (.int 1)) (.callo 1 2 (.cons (.lit (.int 2)) .nil)))) (.cons (.v 3) (.cons (.tup .nil) .nil)))))
    (.cons (.asg (.nm 5) (.comp (.tup (.cons (.v 15) (.cons (.bi .min (.cons (.v 16) (.cons (.lit (.int 3)) .nil))) .nil))) [15, 16] (.tp [(.nm 15), (.nm 16)]) (.seq (.callo 2 2 (.cons (.v 4) (.cons (.lit (.int 4)) .nil)))) .non))
    (.cons (.asg (.nm 6) (.callo 3 2 (.cons (.ix (.v 4) (.lit (.int 0))) (.cons (.v 3) .nil))))
    (.cons (.asg (.nm 7) (.bin .add (.v 5) (.bin .mul (.sl (.v 5) (.som (.neg (.lit (.int 1)))) .non) (.callo 1 2 (.cons (.lit (.int 2)) .nil)))))
    (.cons (.asg (.nm 5) (.bi .list (.cons (.v 7) .nil)))
    (.cons (.asg (.nm 8) (.call 4 (.cons (.v 4) (.cons (.v 6) (.cons (.v 7) .nil)))))
    (.cons (.ife (.cmp .ne (.v 7) (.v 5)) (.cons (.ret (.lit (.bool false)))
    .nil) .nil)
    (.cons (.ife (.or (.cmp .nmem (.v 8) (.lst (.cons (.lit (.int 1)) (.cons (.lit (.int 2)) (.cons (.lit .none) .nil))))) (.no (.call 5 (.cons (.v 4) (.cons (.v 6) (.cons (.v 5) (.cons (.v 8) .nil))))))) (.cons (.ret (.lit (.bool false)))
    .nil) .nil)
    (.cons (.asg (.nm 9) (.tup (.cons (.tup (.cons (.bin .add (.lit (.int 2)) (.callo 1 2 (.cons (.lit (.int 6)) .nil))) .nil)) (.cons (.v 3) (.cons (.tup .nil) .nil)))))
    (.cons (.asg (.nm 10) (.callo 3 2 (.cons (.ix (.v 9) (.lit (.int 0))) (.cons (.v 3) .nil))))
    (.cons (.asg (.nm 11) (.call 4 (.cons (.v 9) (.cons (.v 10) (.cons (.v 5) .nil)))))
    (.cons (.ife (.no (.call 6 (.cons (.v 9) (.cons (.v 10) (.cons (.v 5) (.cons (.v 11) .nil)))))) (.cons (.ret (.lit (.bool false)))
    .nil) .nil)
    (.cons (.asg (.nm 12) (.tup (.cons (.bin .add (.ix (.v 4) (.lit (.int 0))) (.ix (.v 9) (.lit (.int 0)))) (.cons (.v 3) (.cons (.tup .nil) .nil)))))
    (.cons (.asg (.nm 13) (.bi .tuple (.cons (.comp (.bin .add (.v 17) (.v 18)) [17, 18] (.tp [(.nm 17), (.nm 18)]) (.zip false (.cons (.v 6) (.cons (.v 10) .nil))) .non) .nil)))
    (.cons (.asg (.nm 14) (.ix (.lst (.cons (.v 8) (.cons (.call 7 (.cons (.or (.v 8) (.lit (.int 1))) (.cons (.v 11) .nil))) .nil))) (.bi .int (.cons (.cmp .notn (.v 8) (.lit .none)) .nil))))
    (.cons (.ife (.or (.cmp .ne (.call 4 (.cons (.v 12) (.cons (.v 13) (.cons (.v 5) .nil)))) (.v 14)) (.cmp .ne (.call 4 (.cons (.v 12) (.cons (.v 13) (.cons (.bin .add (.v 5) (.call 8 (.cons (.v 5) .nil))) .nil)))) (.lit (.int 1)))) (.cons (.ret (.lit (.bool false)))
    .nil) .nil)
    .nil)))))))))))))))))))
    (.cons (.ret (.lit (.bool true)))
    .nil))
def g_law : List D := []
def f_law : Fn := ⟨"law", false, 1, evF g_law [f__law_pile, f__law_take, f__law_row, f__law_swinging, f_again, f__law_lines_right, f__law_round_so, f__law_least, f_back] false 19 b_law⟩
theorem k_law : ckSs c_law (defScope (top 62)) b_law (defBody (top 62)) = true := by decide +kernel
theorem s_law : FnScope c_law.N ["script"] (defScope (top 62)) := ⟨rfl, rfl, rfl, by decide +kernel, rfl, by decide +kernel, by decide +kernel⟩
end K06


set_option Elab.async false
set_option linter.all false
set_option maxRecDepth 100000
set_option maxHeartbeats 0
namespace K06
open PySem PySem.Spec PyProof.Rows L2 DL
section
variable {P : Program} {w : World} {K : PySem.W.Frag} {mg : Str → Option Value} {base : Heap}
theorem o__law_pile (d : Wd fa fns K mg base) : Ok P w K mg base (xoE mg []) 1 "_law_pile" f__law_pile :=
  d.ok 0 0 (ps := ["script", "k"]) (k := 0) rfl rfl (fun _ _ _ _ _ _ us hl => match us, hl with | [_, _], _ => rfl) s__law_pile (by decide) k__law_pile trivial trivial trivial trivial
theorem o__law_mixed (d : Wd fa fns K mg base) : Ok P w K mg base (xoE mg []) 1 "_law_mixed" f__law_mixed :=
  d.ok 1 1 (ps := ["cell", "k"]) (k := 0) rfl rfl (fun _ _ _ _ _ _ us hl => match us, hl with | [_, _], _ => rfl) s__law_mixed (by decide) k__law_mixed trivial trivial trivial trivial
theorem o__law_take (d : Wd fa fns K mg base) : Ok P w K mg base (xoE mg []) 2 "_law_take" f__law_take :=
  d.ok 2 2 (ps := ["pile", "many"]) (k := 1) rfl rfl (fun _ _ _ _ _ _ us hl => match us, hl with | [_, _], _ => rfl) s__law_take (by decide) k__law_take trivial ⟨(o__law_mixed d).up (by decide), trivial⟩ trivial trivial
theorem o__law_leap (d : Wd fa fns K mg base) : Ok P w K mg base (xoE mg []) 3 "_law_leap" f__law_leap :=
  d.ok 3 3 (ps := ["pile", "yard"]) (k := 2) rfl rfl (fun _ _ _ _ _ _ us hl => match us, hl with | [_, _], _ => rfl) s__law_leap (by decide) k__law_leap trivial ⟨(o__law_take d).up (by decide), trivial⟩ trivial trivial
theorem o__law_great (d : Wd fa fns K mg base) : Ok P w K mg base (xoE mg []) 3 "_law_great" f__law_great :=
  d.ok 4 4 (ps := ["pile"]) (k := 2) rfl rfl (fun _ _ _ _ _ _ us hl => match us, hl with | [_], _ => rfl) s__law_great (by decide) k__law_great trivial ⟨(o__law_take d).up (by decide), trivial⟩ trivial trivial
theorem o__law_run (d : Wd fa fns K mg base) : Ok P w K mg base (xoE mg []) 4 "_law_run" f__law_run :=
  d.ok 5 5 (ps := ["pile", "yard"]) (k := 3) rfl rfl (fun _ _ _ _ _ _ us hl => match us, hl with | [_, _], _ => rfl) s__law_run (by decide) k__law_run trivial ⟨(o__law_take d).up (by decide), (o__law_leap d).up (by decide), (o__law_great d).up (by decide), trivial⟩ trivial trivial
theorem o__law_row (d : Wd fa fns K mg base) : Ok P w K mg base (xoE mg []) 5 "_law_row" f__law_row :=
  d.ok 6 6 (ps := ["pile", "yard", "many"]) (k := 4) rfl rfl (fun _ _ _ _ _ _ us hl => match us, hl with | [_, _, _], _ => rfl) s__law_row (by decide) k__law_row trivial ⟨(o__law_take d).up (by decide), (o__law_run d).up (by decide), trivial⟩ trivial trivial
theorem o__law_number (d : Wd fa fns K mg base) : Ok P w K mg base (xoE mg []) 4 "_law_number" f__law_number :=
  d.ok 7 7 (ps := ["pile"]) (k := 3) rfl rfl (fun _ _ _ _ _ _ us hl => match us, hl with | [_], _ => rfl) s__law_number (by decide) k__law_number trivial ⟨(o__law_take d).up (by decide), (o__law_great d).up (by decide), trivial⟩ trivial trivial
theorem o__law_vector (d : Wd fa fns K mg base) : Ok P w K mg base (xoE mg []) 5 "_law_vector" f__law_vector :=
  d.ok 8 8 (ps := ["pile", "ways"]) (k := 4) rfl rfl (fun _ _ _ _ _ _ us hl => match us, hl with | [_, _], _ => rfl) s__law_vector (by decide) k__law_vector trivial ⟨(o__law_number d).up (by decide), trivial⟩ trivial trivial
theorem o__law_put (d : Wd fa fns K mg base) : Ok P w K mg base (xoE mg []) 1 "_law_put" f__law_put :=
  d.ok 9 9 (ps := ["one", "other", "times"]) (k := 0) rfl rfl (fun _ _ _ _ _ _ us hl => match us, hl with | [_, _, _], _ => rfl) s__law_put (by decide) k__law_put trivial trivial trivial trivial
theorem o__law_round (d : Wd fa fns K mg base) : Ok P w K mg base (xoE mg []) 1 "_law_round" f__law_round :=
  d.ok 10 10 (ps := ["ways", "vector"]) (k := 0) rfl rfl (fun _ _ _ _ _ _ us hl => match us, hl with | [_, _], _ => rfl) s__law_round (by decide) k__law_round trivial trivial trivial trivial
theorem o__law_standing (d : Wd fa fns K mg base) : Ok P w K mg base (xoE mg []) 6 "_law_standing" f__law_standing :=
  d.ok 11 11 (ps := ["pile", "ways", "persons"]) (k := 5) rfl rfl (fun _ _ _ _ _ _ us hl => match us, hl with | [_, _, _], _ => rfl) s__law_standing (by decide) k__law_standing trivial ⟨(o__law_vector d).up (by decide), (o__law_take d).up (by decide), (o__law_put d).up (by decide), (o__law_round d).up (by decide), trivial⟩ trivial trivial
theorem o__law_swinging (d : Wd fa fns K mg base) : Ok P w K mg base (xoE mg []) 7 "_law_swinging" f__law_swinging :=
  d.ok 12 12 (ps := ["pile", "ways", "persons"]) (k := 6) rfl rfl (fun _ _ _ _ _ _ us hl => match us, hl with | [_, _, _], _ => rfl) s__law_swinging (by decide) k__law_swinging trivial ⟨(o__law_take d).up (by decide), (o__law_standing d).up (by decide), trivial⟩ trivial trivial
theorem o_is_whole (d : Wd fa fns K mg base) : Ok P w K mg base (xoE mg []) 1 "is_whole" f_is_whole :=
  d.ok 13 13 (ps := ["thing"]) (k := 0) rfl rfl (fun _ _ _ _ _ _ us hl => match us, hl with | [_], _ => rfl) s_is_whole (by decide) k_is_whole trivial trivial trivial trivial
theorem o_are_ways (d : Wd fa fns K mg base) : Ok P w K mg base (xoE mg []) 2 "are_ways" f_are_ways :=
  d.ok 14 14 (ps := ["thing"]) (k := 1) rfl rfl (fun _ _ _ _ _ _ us hl => match us, hl with | [_], _ => rfl) s_are_ways (by decide) k_are_ways ⟨d.int 68, trivial⟩ ⟨(o_is_whole d).up (by decide), trivial⟩ trivial trivial
theorem o_are_persons (d : Wd fa fns K mg base) : Ok P w K mg base (xoE mg []) 2 "are_persons" f_are_persons :=
  d.ok 15 15 (ps := ["thing"]) (k := 1) rfl rfl (fun _ _ _ _ _ _ us hl => match us, hl with | [_], _ => rfl) s_are_persons (by decide) k_are_persons ⟨d.int 67, trivial⟩ ⟨(o_is_whole d).up (by decide), trivial⟩ trivial trivial
theorem o_are_posts (d : Wd fa fns K mg base) : Ok P w K mg base (xoE mg []) 2 "are_posts" f_are_posts :=
  d.ok 16 16 (ps := ["persons", "thing"]) (k := 1) rfl rfl (fun _ _ _ _ _ _ us hl => match us, hl with | [_, _], _ => rfl) s_are_posts (by decide) k_are_posts trivial ⟨(o_is_whole d).up (by decide), trivial⟩ trivial trivial
theorem o_yard_wrong (d : Wd fa fns K mg base) : Ok P w K mg base (xoE mg []) 3 "yard_wrong" f_yard_wrong :=
  d.ok 17 17 (ps := ["thing"]) (k := 2) rfl rfl (fun _ _ _ _ _ _ us hl => match us, hl with | [_], _ => rfl) s_yard_wrong (by decide) k_yard_wrong trivial ⟨(o_are_ways d).up (by decide), (o_are_persons d).up (by decide), (o_are_posts d).up (by decide), trivial⟩ trivial trivial
theorem o_must_be_yard (d : Wd fa fns K mg base) : Ok P w K mg base (xoE mg []) 4 "must_be_yard" f_must_be_yard :=
  d.ok 18 18 (ps := ["thing"]) (k := 3) rfl rfl (fun _ _ _ _ _ _ us hl => match us, hl with | [_], _ => rfl) s_must_be_yard (by decide) k_must_be_yard trivial ⟨(o_yard_wrong d).up (by decide), trivial⟩ ⟨d.exc 76 75, trivial⟩ trivial
theorem o_is_vector (d : Wd fa fns K mg base) : Ok P w K mg base (xoE mg []) 2 "is_vector" f_is_vector :=
  d.ok 19 19 (ps := ["thing", "many"]) (k := 1) rfl rfl (fun _ _ _ _ _ _ us hl => match us, hl with | [_, _], _ => rfl) s_is_vector (by decide) k_is_vector trivial ⟨(o_is_whole d).up (by decide), trivial⟩ trivial trivial
theorem o_is_point (d : Wd fa fns K mg base) : Ok P w K mg base (xoE mg []) 3 "is_point" f_is_point :=
  d.ok 20 20 (ps := ["ways", "thing"]) (k := 2) rfl rfl (fun _ _ _ _ _ _ us hl => match us, hl with | [_, _], _ => rfl) s_is_point (by decide) k_is_point trivial ⟨(o_is_vector d).up (by decide), trivial⟩ trivial trivial
theorem o_standing_in (d : Wd fa fns K mg base) : Ok P w K mg base (xoE mg []) 4 "standing_in" f_standing_in :=
  d.ok 21 21 (ps := ["yard", "thing"]) (k := 3) rfl rfl (fun _ _ _ _ _ _ us hl => match us, hl with | [_, _], _ => rfl) s_standing_in (by decide) k_standing_in trivial ⟨(o_is_point d).up (by decide), trivial⟩ trivial trivial
theorem o_must_be_standing (d : Wd fa fns K mg base) : Ok P w K mg base (xoE mg []) 5 "must_be_standing" f_must_be_standing :=
  d.ok 22 22 (ps := ["yard", "thing"]) (k := 4) rfl rfl (fun _ _ _ _ _ _ us hl => match us, hl with | [_, _], _ => rfl) s_must_be_standing (by decide) k_must_be_standing trivial ⟨(o_standing_in d).up (by decide), trivial⟩ ⟨d.exc 74 73, trivial⟩ trivial
theorem o_is_leap (d : Wd fa fns K mg base) : Ok P w K mg base (xoE mg []) 3 "is_leap" f_is_leap :=
  d.ok 23 23 (ps := ["persons", "posts", "thing"]) (k := 2) rfl rfl (fun _ _ _ _ _ _ us hl => match us, hl with | [_, _, _], _ => rfl) s_is_leap (by decide) k_is_leap trivial ⟨(o_is_vector d).up (by decide), trivial⟩ trivial trivial
theorem o_unit (d : Wd fa fns K mg base) : Ok P w K mg base (xoE mg []) 1 "unit" f_unit :=
  d.ok 24 24 (ps := ["many"]) (k := 0) rfl rfl (fun _ _ _ _ _ _ us hl => match us, hl with | [_], _ => rfl) s_unit (by decide) k_unit trivial trivial trivial trivial
theorem o_table_of (d : Wd fa fns K mg base) : Ok P w K mg base (xoE mg []) 2 "table_of" f_table_of :=
  d.ok 25 25 (ps := ["persons", "leaps"]) (k := 1) rfl rfl (fun _ _ _ _ _ _ us hl => match us, hl with | [_, _], _ => rfl) s_table_of (by decide) k_table_of trivial ⟨(o_unit d).up (by decide), trivial⟩ trivial trivial
theorem o_change_of (d : Wd fa fns K mg base) : Ok P w K mg base (xoE mg []) 3 "change_of" f_change_of :=
  d.ok 26 26 (ps := ["persons", "leaps"]) (k := 2) rfl rfl (fun _ _ _ _ _ _ us hl => match us, hl with | [_, _], _ => rfl) s_change_of (by decide) k_change_of trivial ⟨(o_table_of d).up (by decide), trivial⟩ trivial trivial
theorem o_product (d : Wd fa fns K mg base) : Ok P w K mg base (xoE mg []) 1 "product" f_product :=
  d.ok 27 27 (ps := ["one", "other"]) (k := 0) rfl rfl (fun _ _ _ _ _ _ us hl => match us, hl with | [_, _], _ => rfl) s_product (by decide) k_product trivial trivial trivial trivial
theorem o_go_steadily (d : Wd fa fns K mg base) : Ok P w K mg base (xoE mg []) 4 "go_steadily" f_go_steadily :=
  d.ok 28 28 (ps := ["persons", "leaps"]) (k := 3) rfl rfl (fun _ _ _ _ _ _ us hl => match us, hl with | [_, _], _ => rfl) s_go_steadily (by decide) k_go_steadily trivial ⟨(o_change_of d).up (by decide), (o_product d).up (by decide), trivial⟩ trivial trivial
theorem o_run_in (d : Wd fa fns K mg base) : Ok P w K mg base (xoE mg []) 5 "run_in" f_run_in :=
  d.ok 29 29 (ps := ["persons", "posts", "at", "thing"]) (k := 4) rfl rfl (fun _ _ _ _ _ _ us hl => match us, hl with | [_, _, _, _], _ => rfl) s_run_in (by decide) k_run_in ⟨d.int 66, trivial⟩ ⟨(o_is_leap d).up (by decide), (o_is_whole d).up (by decide), (o_go_steadily d).up (by decide), trivial⟩ trivial trivial
theorem o_row_in (d : Wd fa fns K mg base) : Ok P w K mg base (xoE mg []) 6 "row_in" f_row_in :=
  d.ok 30 30 (ps := ["persons", "posts", "thing"]) (k := 5) rfl rfl (fun _ _ _ _ _ _ us hl => match us, hl with | [_, _, _], _ => rfl) s_row_in (by decide) k_row_in trivial ⟨(o_run_in d).up (by decide), trivial⟩ trivial trivial
theorem o_must_be_row (d : Wd fa fns K mg base) : Ok P w K mg base (xoE mg []) 7 "must_be_row" f_must_be_row :=
  d.ok 31 31 (ps := ["persons", "posts", "thing"]) (k := 6) rfl rfl (fun _ _ _ _ _ _ us hl => match us, hl with | [_, _, _], _ => rfl) s_must_be_row (by decide) k_must_be_row trivial ⟨(o_row_in d).up (by decide), trivial⟩ ⟨d.exc 72 71, trivial⟩ trivial
theorem o_table_of_row (d : Wd fa fns K mg base) : Ok P w K mg base (xoE mg []) 4 "table_of_row" f_table_of_row :=
  d.ok 32 32 (ps := ["persons", "row"]) (k := 3) rfl rfl (fun _ _ _ _ _ _ us hl => match us, hl with | [_, _], _ => rfl) s_table_of_row (by decide) k_table_of_row trivial ⟨(o_unit d).up (by decide), (o_product d).up (by decide), (o_change_of d).up (by decide), trivial⟩ trivial trivial
theorem o_round_about (d : Wd fa fns K mg base) : Ok P w K mg base (xoE mg []) 1 "round_about" f_round_about :=
  d.ok 33 33 (ps := ["ways", "vector"]) (k := 0) rfl rfl (fun _ _ _ _ _ _ us hl => match us, hl with | [_, _], _ => rfl) s_round_about (by decide) k_round_about trivial trivial trivial trivial
theorem o_run_through (d : Wd fa fns K mg base) : Ok P w K mg base (xoE mg []) 4 "run_through" f_run_through :=
  d.ok 34 34 (ps := ["yard", "standing", "row"]) (k := 3) rfl rfl (fun _ _ _ _ _ _ us hl => match us, hl with | [_, _, _], _ => rfl) s_run_through (by decide) k_run_through trivial ⟨(o_change_of d).up (by decide), (o_round_about d).up (by decide), trivial⟩ trivial trivial
theorem o_on_lines (d : Wd fa fns K mg base) : Ok P w K mg base (xoE mg []) 1 "on_lines" f_on_lines :=
  d.ok 35 35 (ps := ["ways", "standing"]) (k := 0) rfl rfl (fun _ _ _ _ _ _ us hl => match us, hl with | [_, _], _ => rfl) s_on_lines (by decide) k_on_lines trivial trivial trivial trivial
theorem o_led_by_table (d : Wd fa fns K mg base) : Ok P w K mg base (xoE mg []) 2 "led_by_table" f_led_by_table :=
  d.ok 36 36 (ps := ["ways", "table", "standing"]) (k := 1) rfl rfl (fun _ _ _ _ _ _ us hl => match us, hl with | [_, _, _], _ => rfl) s_led_by_table (by decide) k_led_by_table trivial ⟨(o_round_about d).up (by decide), trivial⟩ trivial trivial
theorem o_again (d : Wd fa fns K mg base) : Ok P w K mg base (xoE mg []) 8 "again" f_again :=
  d.okK 37 37 (ps := ["yard", "standing", "row", "most"]) (k := 7) (df := [.int 10000]) rfl rfl (fun z => nomatch z) 3 rfl (by decide) (fun F => (.cons (.int _) .nil)) (fun D doc pm an cdv ct us ks hu hk => match us, ks, hu, hk with | [_, _, _], [_], _, _ => ⟨_, _, _, _, _, _, rfl, rfl, rfl⟩) s_again (by decide) k_again ⟨d.int 65, trivial⟩ ⟨(o_must_be_yard d).up (by decide), (o_must_be_standing d).up (by decide), (o_must_be_row d).up (by decide), (o_is_whole d).up (by decide), (o_table_of_row d).up (by decide), (o_run_through d).up (by decide), (o_on_lines d).up (by decide), (o_led_by_table d).up (by decide), trivial⟩ ⟨d.exc 70 69, trivial⟩ trivial
theorem o_done (d : Wd fa fns K mg base) : Ok P w K mg base (xoE mg []) 8 "done" f_done :=
  d.ok 38 38 (ps := ["yard", "standing", "row"]) (k := 7) rfl rfl (fun _ _ _ _ _ _ us hl => match us, hl with | [_, _, _], _ => rfl) s_done (by decide) k_done trivial ⟨(o_must_be_yard d).up (by decide), (o_must_be_standing d).up (by decide), (o_must_be_row d).up (by decide), (o_run_through d).up (by decide), trivial⟩ trivial trivial
theorem o_back_row (d : Wd fa fns K mg base) : Ok P w K mg base (xoE mg []) 1 "back_row" f_back_row :=
  d.ok 39 39 (ps := ["row"]) (k := 0) rfl rfl (fun _ _ _ _ _ _ us hl => match us, hl with | [_], _ => rfl) s_back_row (by decide) k_back_row trivial trivial trivial trivial
theorem o_back (d : Wd fa fns K mg base) : Ok P w K mg base (xoE mg []) 8 "back" f_back :=
  d.ok 40 40 (ps := ["row"]) (k := 7) rfl rfl (fun _ _ _ _ _ _ us hl => match us, hl with | [_], _ => rfl) s_back (by decide) k_back trivial ⟨(o_must_be_row d).up (by decide), (o_back_row d).up (by decide), trivial⟩ trivial trivial
theorem o__law_lines_right (d : Wd fa fns K mg base) : Ok P w K mg base (xoE mg []) 9 "_law_lines_right" f__law_lines_right :=
  d.ok 41 41 (ps := ["yard", "points", "row", "told"]) (k := 8) rfl rfl (fun _ _ _ _ _ _ us hl => match us, hl with | [_, _, _, _], _ => rfl) s__law_lines_right (by decide) k__law_lines_right trivial ⟨(o_done d).up (by decide), (o_again d).up (by decide), (o_back d).up (by decide), trivial⟩ trivial trivial
theorem o__law_whole (d : Wd fa fns K mg base) : Ok P w K mg base (xoE mg []) 1 "_law_whole" f__law_whole :=
  d.ok 42 42 (ps := ["thing"]) (k := 0) rfl rfl (fun _ _ _ _ _ _ us hl => match us, hl with | [_], _ => rfl) s__law_whole (by decide) k__law_whole trivial trivial trivial trivial
theorem o__law_round_so (d : Wd fa fns K mg base) : Ok P w K mg base (xoE mg []) 9 "_law_round_so" f__law_round_so :=
  d.ok 43 43 (ps := ["ring", "places", "row", "told"]) (k := 8) rfl rfl (fun _ _ _ _ _ _ us hl => match us, hl with | [_, _, _, _], _ => rfl) s__law_round_so (by decide) k__law_round_so trivial ⟨(o__law_whole d).up (by decide), (o_done d).up (by decide), trivial⟩ trivial trivial
theorem o__law_divisor (d : Wd fa fns K mg base) : Ok P w K mg base (xoE mg []) 1 "_law_divisor" f__law_divisor :=
  d.ok 44 44 (ps := ["one", "other"]) (k := 0) rfl rfl (fun _ _ _ _ _ _ us hl => match us, hl with | [_, _], _ => rfl) s__law_divisor (by decide) k__law_divisor trivial trivial trivial trivial
theorem o__law_least (d : Wd fa fns K mg base) : Ok P w K mg base (xoE mg []) 2 "_law_least" f__law_least :=
  d.ok 45 45 (ps := ["one", "other"]) (k := 1) rfl rfl (fun _ _ _ _ _ _ us hl => match us, hl with | [_, _], _ => rfl) s__law_least (by decide) k__law_least trivial ⟨(o__law_divisor d).up (by decide), trivial⟩ trivial trivial
theorem o_law (d : Wd fa fns K mg base) : Ok P w K mg base (xoE mg []) 10 "law" f_law :=
  d.ok 46 46 (ps := ["script"]) (k := 9) rfl rfl (fun _ _ _ _ _ _ us hl => match us, hl with | [_], _ => rfl) s_law (by decide) k_law trivial ⟨(o__law_pile d).up (by decide), (o__law_take d).up (by decide), (o__law_row d).up (by decide), (o__law_swinging d).up (by decide), (o_again d).up (by decide), (o__law_lines_right d).up (by decide), (o__law_round_so d).up (by decide), (o__law_least d).up (by decide), (o_back d).up (by decide), trivial⟩ trivial trivial
end
theorem facts {P : Program} {w : World} {K : PySem.W.Frag} {h : Heap} {mg : Str → Option Value} {f : Addr} (X : K.In h) (G : h.Ns mainGlobals mg) (hfa : mg ("law" : Str) = some (.ref f)) (c : He.SaysD fa fns K) (ec : exB K = true) :
    ∃ fd : FuncData, (∀ (s : Shared) (v : Value), BindsTo s fd ⟨[v], []⟩ [("script", v)]) ∧ ∀ base : Heap, K.In base → base.Ns mainGlobals mg → FnOk P w K mg base CX0 10 f fd ["script"] (fun vs H Q _ => spFn K (xoE mg []) mg f_law vs H Q fun _ _ _ => False) := by
  obtain ⟨fd, F⟩ := c.def_ 46 rfl
  have F : FunD K "law" "law" (defArgs (top 62)) (defBody (top 62)) (defScope (top 62)) [] [] (He.fAd K ("law", none)) fd := F
  have b := FunD.bindsA (ps := ["script"]) F fun _ _ _ _ _ _ us hl => match us, hl with | [_], _ => rfl
  have e := hfa.symm.trans (He.glo_ok X G (c.fact 64 (f := .glo "law") rfl))
  injection e with e
  injection e with e
  subst e
  refine ⟨fd, fun s v => b s [v] rfl, fun base X2 G2 => ?_⟩
  have d : Wd fa fns K mg base := ⟨X2, G2, c, ec⟩
  exact FnQuiet (def_ok F s_law (by decide) k_law ⟨GlbAll.at (xs := c_law.gx) (ds := g_law) trivial, fun i y hy => FunAll.at (k := 9) (xs := c_law.fx) (ns := c_law.kx) (fs := [f__law_pile, f__law_take, f__law_row, f__law_swinging, f_again, f__law_lines_right, f__law_round_so, f__law_least, f_back]) (show FunAll P w K mg base (xoE mg []) 9 _ _ _ from ⟨(o__law_pile d).up (by decide), (o__law_take d).up (by decide), (o__law_row d).up (by decide), (o__law_swinging d).up (by decide), (o_again d).up (by decide), (o__law_lines_right d).up (by decide), (o__law_round_so d).up (by decide), (o__law_least d).up (by decide), (o_back d).up (by decide), trivial⟩) i y hy, d.blt, exB_ok d.X d.G d.e, xoE_of, CxAll.at (xs := c_law.cx) trivial, ExcAll.at (xs := c_law.ex) trivial⟩)
theorem head (hl : ∀ ns : List Int, ns.length ≤ 63 → ∃ o, f_law.run [] [.dict [(.none, .list (ns.map PyData.int))]] = .ret (.d (.bool true)) o) : PySem.Challenge.rw_leapfolk_k75_whole_the_second_time_or_ne.Holds := by
  open PySem.W PySem.Calls in
  w_on; o_law
  refine HandSHeadRun.head_any (r := PySem.W.OpenLaw.row PySem.Challenge.rw_leapfolk_k75_whole_the_second_time_or_ne) (q := PySem.W.view (PySem.W.OpenLaw.row PySem.Challenge.rw_leapfolk_k75_whole_the_second_time_or_ne).prog [62]) (H := hk) (ob := ob) (M := 20000) (loose := names) (d := HandSHeadRun.topDef (PySem.W.OpenLaw.row PySem.Challenge.rw_leapfolk_k75_whole_the_second_time_or_ne).prog 62) (kwd := []) ob_eq
    (by kernel_rfl) (fun s => by kernel_rfl) run (by kernel_rfl) (by kernel_rfl) (by kernel_rfl) (by rfl) (by first | assumption | decide +kernel) (by decide +kernel) ⟨rfl, rfl, rfl, rfl, rfl, by decide +kernel⟩ ?hw ?hc
  case hw => w_witness2
  case hc =>
    refine L2.walk_ofE (l := PySem.Challenge.rw_leapfolk_k75_whole_the_second_time_or_ne) (n := 63) (k := 10) (x := "script") (CX := L2.CX0) rfl (by decide) (by kernel_rfl) ⟨rfl, by decide, by decide⟩ ?F (fun _ _ _ _ z => z)
    intro w mg fa0 h Y G hmg0
    obtain ⟨K, KX, c, ec⟩ := Y
    have hmg : mg ("law" : PySem.Str) = some (.ref fa0) := by
      have e : (HandSHeadRun.topDef (PySem.W.OpenLaw.row PySem.Challenge.rw_leapfolk_k75_whole_the_second_time_or_ne).prog 62).name = ("law" : PySem.Str) := by kernel_rfl
      rw [← e]
      exact hmg0
    obtain ⟨fd, hb, hF⟩ := facts (P := (PySem.Challenge.rw_leapfolk_k75_whole_the_second_time_or_ne).prog) (w := w) KX G hmg c ec
    exact ⟨K, fd, (fun vs H Q _ => spFn K (xoE mg []) mg f_law vs H Q fun _ _ _ => False), KX, hb, fun H a ns hn _ hS => law_sp rfl rfl hl H (fun p hp => absurd (show p ∈ ([] : List _) from hp) List.not_mem_nil) a ns hn hS, hF⟩
end K06


set_option Elab.async false
set_option linter.all false
set_option maxRecDepth 100000
set_option maxHeartbeats 4000000
namespace K06
open PySem DL

abbrev XF : Str → List D → List D → Prop := fun _ _ _ => False
/-- what the law draws from -/
def Pile (o : List D) : Prop := ∃ (a b c : Int) (d : Bool), o = [.int a, .int b, .int c, .bool d] ∧ 0 ≤ a
theorem u_mixed : f__law_mixed.run = evF g__law_mixed [] false 3 b__law_mixed := rfl
theorem u_take : f__law_take.run = evF g__law_take [f__law_mixed] true 3 b__law_take := rfl
theorem t_mixed (a k : Int) (Q : DV → List D → Prop) (X) (q : ∀ n, Q (.d (.int n)) []) : wF (f__law_mixed.run [] [.int a, .int k]) Q X := by
  rw [u_mixed, rF, show env0 false 3 [] [.int a, .int k] = [.val (.int a), .val (.int k), .un] from rfl]
  simp only [b__law_mixed, rS, rE, rEs, rB, rV, rZ]
  refine ⟨by decide, .inr (.inl (by decide)), .inr (.inl (by decide)), by decide, ?_, by decide, ?_, by decide, ⟨by decide, by decide⟩, q _⟩
  · have h : ∀ x : Int, (x.fmod 2147483647).natAbs < 2 ^ 64 := fun x => by
      have h1 := Int.fmod_nonneg_of_pos x (b := 2147483647) (by decide)
      have h2 := Int.fmod_lt_of_pos x (b := 2147483647) (by decide)
      omega
    exact .inl (h _)
  · have h : ∀ x : Int, (x.fmod 2147483629).natAbs < 2 ^ 64 := fun x => by
      have h1 := Int.fmod_nonneg_of_pos x (b := 2147483629) (by decide)
      have h2 := Int.fmod_lt_of_pos x (b := 2147483629) (by decide)
      omega
    exact .inl (h _)
theorem take_ok {o : List D} (p : Pile o) {m : Int} (hm : 1 ≤ m) (hm2 : m < 2 ^ 64) (Q : DV → List D → Prop) (X) (q : ∀ n o', 0 ≤ n → n < m → Pile o' → Q (.d (.int n)) o') : wF (f__law_take.run o [.int m]) Q X := by
  obtain ⟨a, b, c, d, rfl, ha⟩ := p
  rw [u_take, rF, show env0 true 3 [.int a, .int b, .int c, .bool d] [.int m] = [.own true [.int a, .int b, .int c, .bool d], .val (.int m), .un] from rfl]
  have em : ([PyData.int 0, PyData.int (-1)] : List D) = [0, -1].map PyData.int := rfl
  simp only [b__law_take, rS, rE, rEs, rB, rV, rZ, rC, em, cmp_mem_ints, rI]
  have hn : ∀ x : Int, 0 ≤ x.fmod m ∧ x.fmod m < m := fun x => ⟨Int.fmod_nonneg_of_pos x (by omega), Int.fmod_lt_of_pos x (by omega)⟩
  refine ⟨by decide, ?_⟩
  split
  · refine ⟨rfl, rfl, t_mixed b (c + 1) _ _ fun n => ?_⟩
    simp only [rB, rZ, rI]
    exact ⟨by omega, q _ _ (hn n).1 (hn n).2 ⟨a, b, c + 1, d, rfl, ha⟩⟩
  · refine ⟨by omega, ⟨by omega, ?_⟩, q _ _ (hn a).1 (hn a).2 ⟨a.fdiv m, b, c, d, rfl, ?_⟩⟩
    · exact Nat.lt_of_lt_of_le (PySem.Flt.log2_lt_of (show 0 < 64 by decide) (show m.natAbs < 2 ^ 64 by omega)) (by decide)
    · exact Int.fdiv_nonneg ha (by omega)
theorem u_great : f__law_great.run = evF g__law_great [f__law_take] true 1 b__law_great := rfl
theorem great_ok {o : List D} (p : Pile o) (Q : DV → List D → Prop) (X) (q : ∀ n o', 0 ≤ n → n < 10000000000 → Pile o' → Q (.d (.int n)) o') : wF (f__law_great.run o []) Q X := by
  rw [u_great, rF, show env0 true 1 o [] = [.own true o] from rfl]
  simp only [b__law_great, rS, rE, rEs, rB, rV, rZ, rC, rI]
  refine ⟨⟨by decide, by decide, by decide⟩, rfl, rfl, take_ok p (by decide) (by decide) _ _ fun n o1 h1 h2 p1 => ?_⟩
  simp only [rB, rV, rZ, rC, rI]
  refine ⟨⟨by decide, by decide, by decide⟩, .inr (.inl (by decide)), ⟨by decide, by decide, by decide⟩, rfl, rfl, take_ok p1 (by decide) (by decide) _ _ fun m o2 h3 h4 p2 => ?_⟩
  simp only [rB, rV, rZ, rC, rI]
  have e : ((10 : Int) ^ Int.toNat 5) = 100000 := by decide
  rw [e] at h2 h4 ⊢
  exact q _ _ (by omega) (by omega) p2
theorem u_number : f__law_number.run = evF g__law_number [f__law_take, f__law_great] true 1 b__law_number := rfl
theorem number_ok {o : List D} (p : Pile o) (Q : DV → List D → Prop) (X) (q : ∀ n o', Pile o' → Q (.d (.int n)) o') : wF (f__law_number.run o []) Q X := by
  obtain ⟨a, b, c, d, rfl, ha⟩ := p
  have p : Pile [.int a, .int b, .int c, .bool d] := ⟨a, b, c, d, rfl, ha⟩
  rw [u_number, rF, show env0 true 1 [.int a, .int b, .int c, .bool d] [] = [.own true [.int a, .int b, .int c, .bool d]] from rfl]
  simp only [b__law_number, rS, rE, rEs, rB, rV, rZ, rC, rI]
  have tail : ∀ {o}, Pile o → wF (f__law_take.run o [.int 13]) (fun v o' => wO (bin .sub v.fz (.int 6)) fun v => Q v o') (fun c ps o' => X c ps o') := fun {o} p => take_ok p (by decide) (by decide) _ _ fun n o1 _ _ p1 => by
    simp only [rB, rZ]
    exact q _ _ p1
  cases d with
  | false =>
    simp only [rB, rZ]
    exact ⟨rfl, rfl, tail p⟩
  | true =>
    simp only [rZ]
    refine ⟨rfl, rfl, take_ok p (by decide) (by decide) _ _ fun n o1 h1 h2 p1 => ?_⟩
    simp only [rB, rV, rZ, rC, rI]
    split
    · refine ⟨rfl, rfl, great_ok p1 _ _ fun m o2 h3 h4 p2 => ?_⟩
      simp only [rB, rV, rZ, rC, rI]
      refine ⟨rfl, rfl, take_ok p2 (by decide) (by decide) _ _ fun k o3 h5 h6 p3 => ?_⟩
      simp only [rB, rV, rZ, rC, rI]
      exact ⟨.inl (by decide), .inl (by omega), q _ _ p3⟩
    · exact ⟨rfl, rfl, tail p1⟩
/-- ways, a size each: 0 a line -/
def Ways (ws : List Int) : Prop := ∀ s ∈ ws, s = 0 ∨ 2 ≤ s
def I (v : List Int) : D := .tuple (v.map .int)
theorem all2_ints {α : Type} : ∀ {xs : List α} {ys : List D}, All2 (fun _ y => ∃ i : Int, y = .int i) xs ys → ∃ v : List Int, ys = v.map PyData.int ∧ v.length = xs.length
  | _, _, .nil => ⟨[], rfl, rfl⟩
  | _, _, .cons ⟨i, e⟩ h => by
    obtain ⟨v, e2, hl⟩ := all2_ints h
    subst e e2
    exact ⟨i :: v, rfl, congrArg (· + 1) hl⟩
theorem all2_fn {α β : Type} {f : α → β} : ∀ {xs : List α} {ys : List β}, All2 (fun x y => y = f x) xs ys → ys = xs.map f
  | _, _, .nil => rfl
  | _, _, .cons e h => by rw [e, all2_fn h]; rfl
theorem u_vector : f__law_vector.run = evF g__law_vector [f__law_number] true 3 b__law_vector := rfl
theorem vector_ok {o : List D} (p : Pile o) {ws : List Int} (hw : ws.length ≤ 100) (Q : DV → List D → Prop) (X) (q : ∀ v o', v.length = ws.length → Pile o' → Q (.d (I v)) o') : wF (f__law_vector.run o [I ws]) Q X := by
  rw [u_vector, rF, show env0 true 3 o [I ws] = [.own true o, .val (I ws), .un] from rfl]
  unfold I
  simp only [b__law_vector, rS, rE, rEs, rB, rV, rZ, rC, rI, rU]
  refine ⟨rfl, wR.imp (comp_all (fun e => ∃ o x, e = [.own true o, .val (I ws), x] ∧ Pile o) (fun _ y => ∃ i : Int, y = .int i) _ _ ⟨o, .un, rfl, p⟩ fun x hx e he => ?_) (fun ys e h => ?_) fun _ _ _ h => h.elim⟩
  · obtain ⟨o, x0, rfl, p⟩ := he
    simp only [rS, rE, rEs, rB, rV, rZ, rC, rI, rU, wipeE]
    refine ⟨rfl, rfl, number_ok p _ _ fun n o2 p2 => ?_⟩
    exact ⟨⟨o2, _, rfl, p2⟩, _, rfl, n, rfl⟩
  · obtain ⟨⟨o, x0, rfl, p⟩, ha⟩ := h
    obtain ⟨v, rfl, hl⟩ := all2_ints ha
    rw [List.length_map] at hl
    exact ⟨by rw [List.length_map]; exact Nat.le_trans (by omega) (show 100 ≤ lim by decide), rfl, q v o hl p⟩
theorem u_put : f__law_put.run = evF g__law_put [] false 5 b__law_put := rfl
def put (a b : List Int) (t : Int) : List Int := List.zipWith (fun x y => x + t * y) a b
theorem zip_put (a b : List Int) : zipAll [a.map PyData.int, b.map PyData.int] = List.zipWith (fun x y => PyData.tuple [.int x, .int y]) a b := by
  show ((a.map PyData.int).zip (b.map PyData.int)).map (fun p => PyData.tuple [p.1, p.2]) = _
  induction a generalizing b with
  | nil => rfl
  | cons x a ih => cases b with
    | nil => rfl
    | cons y b => simp only [List.map_cons, List.zip_cons_cons, List.zipWith_cons_cons]; rw [ih]
theorem zipD_ints (st : Bool) (a b : List Int) (h : st = true → a.length = b.length) (Q : List D → Prop) : wO (zipD st [.tuple (a.map PyData.int), .tuple (b.map PyData.int)]) Q = Q (List.zipWith (fun x y => PyData.tuple [.int x, .int y]) a b) := by
  have e : zipD st [.tuple (a.map PyData.int), .tuple (b.map PyData.int)] = if st = true → (a.map PyData.int).length = (b.map PyData.int).length then some (zipAll [a.map PyData.int, b.map PyData.int]) else none := rfl
  rw [e, if_pos (by simpa using h), wO_some, zip_put]
theorem mem_zipWith {α β γ : Type} {f : α → β → γ} : ∀ {a : List α} {b : List β} {z : γ}, z ∈ List.zipWith f a b → ∃ x ∈ a, ∃ y ∈ b, z = f x y
  | [], _, _, h => by simp at h
  | _ :: _, [], _, h => by simp at h
  | x :: a, y :: b, z, h => by
    rw [List.zipWith_cons_cons] at h
    rcases List.mem_cons.mp h with e | h
    · exact ⟨x, List.mem_cons_self, y, List.mem_cons_self, e⟩
    · obtain ⟨x', h1, y', h2, e⟩ := mem_zipWith h
      exact ⟨x', List.mem_cons_of_mem _ h1, y', List.mem_cons_of_mem _ h2, e⟩
theorem filterMap_zip {α β γ : Type} (f : α → β → D) (g : D → Option γ) (h : α → β → γ) (e : ∀ x y, g (f x y) = some (h x y)) : ∀ (a : List α) (b : List β), (List.zipWith f a b).filterMap g = List.zipWith h a b
  | [], _ => by simp
  | _ :: _, [] => by simp
  | x :: a, y :: b => by
    rw [List.zipWith_cons_cons, List.zipWith_cons_cons, List.filterMap_cons, e, filterMap_zip f g h e a b]
theorem map_zipWith' {α β γ δ : Type} (f : α → β → γ) (g : γ → δ) : ∀ (a : List α) (b : List β), (List.zipWith f a b).map g = List.zipWith (fun x y => g (f x y)) a b
  | [], _ => by simp
  | _ :: _, [] => by simp
  | x :: a, y :: b => by
    rw [List.zipWith_cons_cons, List.zipWith_cons_cons, List.map_cons, map_zipWith' f g a b]
/-- what a pair of ints makes -/
def on2 (h : Int → Int → D) : D → Option D
  | .tuple [.int x, .int y] => some (h x y)
  | _ => none
theorem fm_on2 (h : Int → Int → Int) (a b : List Int) : (List.zipWith (fun x y => PyData.tuple [.int x, .int y]) a b).filterMap (on2 fun x y => .int (h x y)) = (List.zipWith h a b).map PyData.int := by
  rw [filterMap_zip (fun x y => PyData.tuple [PyData.int x, PyData.int y]) (on2 fun x y => .int (h x y)) (fun x y => PyData.int (h x y)) (fun _ _ => rfl), map_zipWith' h PyData.int]
theorem put_ok {a b : List Int} {t : Int} (hl : a.length ≤ 100) (ht : t.natAbs < 2 ^ 64) (Q : DV → List D → Prop) (X) (q : Q (.d (I (put a b t))) []) : wF (f__law_put.run [] [I a, I b, .int t]) Q X := by
  rw [u_put, rF, show env0 false 5 [] [I a, I b, .int t] = [.val (I a), .val (I b), .val (.int t), .un, .un] from rfl]
  unfold I
  simp only [b__law_put, rS, rE, rEs, rB, rV, rZ, rC, rI, rU, zipD_ints false a b (fun z => nomatch z)]
  refine ⟨rfl, wR.imp (comp_fm (fun e => ∃ x y, e = [.val (I a), .val (I b), .val (.int t), x, y]) (on2 fun x y => .int (x + t * y)) _ _ ⟨.un, .un, rfl⟩ fun z hz e he => ?_) (fun ys e h => ?_) fun _ _ _ h => h.elim⟩
  · obtain ⟨x0, y0, rfl⟩ := he
    obtain ⟨x, _, y, _, rfl⟩ := mem_zipWith hz
    simp only [rS, rE, rEs, rB, rV, rZ, rC, rI, rU, wipeE]
    exact ⟨.inl ht, ⟨_, _, rfl⟩, rfl⟩
  · obtain ⟨⟨x0, y0, rfl⟩, rfl⟩ := h
    rw [fm_on2 fun x y => x + t * y]
    exact ⟨by rw [List.length_map, List.length_zipWith]; exact Nat.le_trans (by omega) (show 100 ≤ lim by decide), q⟩
/-- on rings round about -/
def rnd (ws v : List Int) : List Int := List.zipWith (fun s n => if 0 < s then n.fmod s else n) ws v
theorem u_round : f__law_round.run = evF g__law_round [] false 4 b__law_round := rfl
theorem round_ok {ws v : List Int} (hl : ws.length ≤ 100) (Q : DV → List D → Prop) (X) (q : Q (.d (I (rnd ws v))) []) : wF (f__law_round.run [] [I ws, I v]) Q X := by
  rw [u_round, rF, show env0 false 4 [] [I ws, I v] = [.val (I ws), .val (I v), .un, .un] from rfl]
  unfold I
  simp only [b__law_round, rS, rE, rEs, rB, rV, rZ, rC, rI, rU, zipD_ints false ws v (fun z => nomatch z)]
  refine ⟨rfl, wR.imp (comp_fm (fun e => ∃ x y, e = [.val (I ws), .val (I v), x, y]) (on2 fun s n => .int (if 0 < s then n.fmod s else n)) _ _ ⟨.un, .un, rfl⟩ fun z hz e he => ?_) (fun ys e h => ?_) fun _ _ _ h => h.elim⟩
  · obtain ⟨x0, y0, rfl⟩ := he
    obtain ⟨x, _, y, _, rfl⟩ := mem_zipWith hz
    simp only [rS, rE, rEs, rB, rV, rZ, rC, rI, rU, wipeE]
    by_cases h0 : 0 < x
    · have h1 : ¬ (1 : Int) > x := by omega
      simp only [h1, h0, decide_true, if_false, if_true, rZ]
      exact ⟨by omega, l2, ⟨_, _, rfl⟩, by show some _ = some (PyData.int (if 0 < x then y.fmod x else y)); rw [if_pos h0]⟩
    · by_cases h1 : (1 : Int) > x
      · simp only [h1, h0, decide_false, if_false, if_true, Bool.false_eq_true, rZ]
        exact ⟨by omega, l2, ⟨_, _, rfl⟩, by show some _ = some (PyData.int (if 0 < x then y.fmod x else y)); rw [if_neg h0]⟩
      · omega
  · obtain ⟨⟨x0, y0, rfl⟩, rfl⟩ := h
    rw [fm_on2 fun s n => if 0 < s then n.fmod s else n]
    exact ⟨by rw [List.length_map, List.length_zipWith]; exact Nat.le_trans (by omega) (show 100 ≤ lim by decide), q⟩
/-- a point of these ways -/
def InW (ws v : List Int) : Prop := v.length = ws.length ∧ rnd ws v = v
theorem rnd_rnd : ∀ (ws v : List Int), rnd ws (rnd ws v) = rnd ws v
  | [], _ => rfl
  | _ :: _, [] => rfl
  | s :: ws, n :: v => by
    show (if 0 < s then (if 0 < s then n.fmod s else n).fmod s else (if 0 < s then n.fmod s else n)) :: rnd ws (rnd ws v) = (if 0 < s then n.fmod s else n) :: rnd ws v
    rw [rnd_rnd ws v]
    by_cases h : 0 < s
    · simp only [if_pos h]
      rw [Int.fmod_eq_of_lt (Int.fmod_nonneg_of_pos n h) (Int.fmod_lt_of_pos n h)]
    · simp only [if_neg h]
theorem rnd_len (ws v : List Int) : (rnd ws v).length = min ws.length v.length := List.length_zipWith
theorem rnd_in {ws v : List Int} (h : v.length = ws.length) : InW ws (rnd ws v) := ⟨by rw [rnd_len, h, Nat.min_self], rnd_rnd ws v⟩
theorem put_len (a b : List Int) (t : Int) : (put a b t).length = min a.length b.length := List.length_zipWith
theorem all2_vecs {α : Type} {n : Nat} : ∀ {xs : List α} {ys : List D}, All2 (fun _ y => ∃ v : List Int, y = I v ∧ v.length = n) xs ys → ∃ vs : List (List Int), ys = vs.map I ∧ vs.length = xs.length ∧ ∀ v ∈ vs, v.length = n
  | _, _, .nil => ⟨[], rfl, rfl, fun v h => nomatch h⟩
  | _, _, .cons ⟨i, e, hi⟩ h => by
    obtain ⟨v, e2, hl, hv⟩ := all2_vecs h
    subst e e2
    refine ⟨i :: v, rfl, congrArg (· + 1) hl, fun w hw => ?_⟩
    rcases List.mem_cons.mp hw with z | z
    · rw [z]; exact hi
    · exact hv w z
theorem u_standing : f__law_standing.run = evF g__law_standing [f__law_vector, f__law_take, f__law_put, f__law_round] true 11 b__law_standing := rfl
theorem standing_ok {o : List D} (p : Pile o) {ws : List Int} (hw : 1 ≤ ws.length) (hw2 : ws.length ≤ 100) {n : Nat} (hn : n ≤ 100) (Q : DV → List D → Prop) (X) (q : ∀ (S : List (List Int)) o', S.length = n → (∀ v ∈ S, InW ws v) → Pile o' → Q (.d (.tuple (S.map I))) o') :
    wF (f__law_standing.run o [I ws, .int n]) Q X := by
  rw [u_standing, rF, show env0 true 11 o [I ws, .int n] = [.own true o, .val (I ws), .val (.int n), .un, .un, .un, .un, .un, .un, .un, .un] from rfl]
  have el : ∀ Q : DV → Prop, wO (bi .len [I ws]) Q = Q (.d (.int ws.length)) := fun Q => by
    show wO (bi .len [.tuple (ws.map PyData.int)]) Q = _
    simp only [rU, List.length_map]
  simp only [b__law_standing, rS, rE, rEs, rB, rV, rZ, rC, rI, rU]
  refine ⟨rfl, rfl, vector_ok p hw2 _ _ fun st o1 hst p1 => ?_⟩
  simp only [rS, rE, rEs, rB, rV, rZ, rC, rI, rU, el]
  refine ⟨rfl, rfl, take_ok p1 (by omega) (by omega) _ _ fun k o2 k1 k2 p2 => ?_⟩
  simp only [rS, rE, rEs, rB, rV, rZ, rC, rI, rU]
  refine ⟨big_of (by omega) (by omega), rfl, wR.imp (comp_all (fun e => ∃ o x, e = [.own true o, .val (I ws), .val (.int n), .val (I st), .un, .un, .un, .un, .un, .un, x] ∧ Pile o) (fun _ y => ∃ v : List Int, y = I v ∧ v.length = ws.length) _ _ ⟨o2, .un, rfl, p2⟩ fun x hx e he => ?_) (fun ys e h => ?_) fun _ _ _ h => h.elim⟩
  · obtain ⟨o, x0, rfl, p⟩ := he
    simp only [rS, rE, rEs, rB, rV, rZ, rC, rI, rU, wipeE]
    refine ⟨rfl, rfl, vector_ok p hw2 _ _ fun v o3 hv p3 => ?_⟩
    exact ⟨⟨o3, _, rfl, p3⟩, _, rfl, v, rfl, hv⟩
  · obtain ⟨⟨o3, x0, rfl, p3⟩, ha⟩ := h
    obtain ⟨so, rfl, hso, hsv⟩ := all2_vecs ha
    rw [rngI_len] at hso
    refine ⟨by rw [List.length_map]; exact Nat.le_trans (show so.length ≤ 1000 by omega) (by decide), ?_⟩
    rw [show putBack [Slot.own true o2, .val (I ws), .val (.int n), .val (I st), .un, .un, .un, .un, .un, .un, .un] [Slot.own true o3, .val (I ws), .val (.int n), .val (I st), .un, .un, .un, .un, .un, .un, x0] [10] = [Slot.own true o3, .val (I ws), .val (.int n), .val (I st), .un, .un, .un, .un, .un, .un, .un] from rfl]
    simp only [rS, rE, rEs, rB, rV, rZ, rC, rI, rU]
    refine ⟨rfl, rfl, take_ok p3 (by decide) (by decide) _ _ fun odd o4 d1 d2 p4 => ?_⟩
    simp only [rS, rE, rEs, rB, rV, rZ, rC, rI, rU]
    refine ⟨l0, big_of (by omega) (by omega), ?_⟩
    refine for_inv (fun r e => ∃ (o : List D) (S : List (List Int)) (x y z : Slot), e = [.own true o, .val (I ws), .val (.int n), .val (I st), .val (.list (so.map I)), .val (.int odd), .own false (S.map I), x, y, z, .un] ∧ Pile o ∧ (∀ v ∈ S, InW ws v) ∧ S.length + r.length = n) (fun x r e h => ?_) (fun e h => ?_) _ _ ⟨o4, [], .un, .un, .un, rfl, p4, (fun v z => nomatch z), by rw [rngI_len, List.length_nil, Nat.zero_add]; omega⟩
    · obtain ⟨o, S, x3, x4, x5, rfl, p, hS, hl⟩ := h
      simp only [rS, rE, rEs, rB, rV, rZ, rC, rI, rU]
      have end_ : ∀ {o : List D} {pl : List Int} {z : Slot}, Pile o → pl.length = ws.length → wF (f__law_round.run [] [I ws, I pl]) (fun v _ => (S.map I).length < lim ∧ ∃ (o' : List D) (S' : List (List Int)) (y1 y2 y3 : Slot), [Slot.own true o, .val (I ws), .val (.int n), .val (I st), .val (.list (so.map I)), .val (.int odd), .own false (S.map I ++ [v.fz]), .val x, .val (I pl), z, .un] = [Slot.own true o', .val (I ws), .val (.int n), .val (I st), .val (.list (so.map I)), .val (.int odd), .own false (S'.map I), y1, y2, y3, .un] ∧ Pile o' ∧ (∀ v ∈ S', InW ws v) ∧ S'.length + r.length = n) (fun c ps _ => X c ps o) := fun {o pl z} p hpl => by
        refine round_ok hw2 _ _ ?_
        have hl' : S.length + (r.length + 1) = n := hl
        refine ⟨by rw [List.length_map]; show S.length < 1048576; omega, o, S ++ [rnd ws pl], _, _, _, by rw [List.map_append]; rfl, p, fun v hv => ?_, by rw [List.length_append]; simp only [List.length_cons, List.length_nil]; omega⟩
        rcases List.mem_append.mp hv with hv | hv
        · exact hS v hv
        · have : v = rnd ws pl := by simpa using hv
          rw [this]; exact rnd_in hpl
      refine for_inv (fun r2 e => ∃ (o : List D) (pl : List Int) (z : Slot), e = [.own true o, .val (I ws), .val (.int n), .val (I st), .val (.list (so.map I)), .val (.int odd), .own false (S.map I), .val x, .val (I pl), z, .un] ∧ Pile o ∧ pl.length = ws.length ∧ ∀ d ∈ r2, ∃ v : List Int, d = I v ∧ v.length = ws.length) (fun x2 r2 e h => ?_) (fun e h => ?_) _ _ ⟨o, st, x5, rfl, p, hst, fun d hd => ?_⟩
      · obtain ⟨o, pl, z, rfl, p, hpl, hr⟩ := h
        obtain ⟨v, rfl, hv⟩ := hr x2 List.mem_cons_self
        simp only [rS, rE, rEs, rB, rV, rZ, rC, rI, rU]
        refine ⟨rfl, rfl, take_ok p (by decide) (by decide) _ _ fun a o5 a1 a2 p5 => ?_⟩
        simp only [rS, rE, rEs, rB, rV, rZ, rC, rI, rU]
        refine ⟨l3, at_any (xs := [_, _, _]) d1 d2 fun d hd => ?_⟩
        have hd' : ∃ j : Int, d = .int j ∧ 0 ≤ j ∧ j < 3 := by
          simp only [List.mem_cons, List.not_mem_nil, or_false] at hd
          rcases hd with rfl | rfl | rfl
          · exact ⟨1, rfl, by decide, by decide⟩
          · exact ⟨1, rfl, by decide, by decide⟩
          · exact ⟨2, rfl, by decide, by decide⟩
        obtain ⟨j, rfl, j1, j2⟩ := hd'
        simp only [rS, rE, rEs, rB, rV, rZ, rC, rI, rU]
        have hj : j = 0 ∨ j = 1 ∨ j = 2 := by omega
        refine ⟨.inl (by omega), rfl, rfl, put_ok (by omega) (by rcases hj with rfl | rfl | rfl <;> omega) _ _ ?_⟩
        exact ⟨o5, _, _, rfl, p5, by rw [put_len]; omega, fun d hd => hr d (List.mem_cons_of_mem _ hd)⟩
      · obtain ⟨o, pl, z, rfl, p, hpl, hr⟩ := h
        simp only [rS, rE, rEs, rB, rV, rZ, rC, rI, rU]
        split
        · refine ⟨rfl, rfl, vector_ok p hw2 _ _ fun v o5 hv p5 => ?_⟩
          simp only [rS, rE, rEs, rB, rV, rZ, rC, rI, rU]
          exact ⟨rfl, rfl, end_ p5 hv⟩
        · exact ⟨rfl, rfl, end_ p hpl⟩
      · obtain ⟨v, hv, e⟩ := List.mem_map.mp hd
        exact ⟨v, e.symm, hsv v hv⟩
    · obtain ⟨o, S, x3, x4, x5, rfl, p, hS, hl⟩ := h
      simp only [rS, rE, rEs, rB, rV, rZ, rC, rI, rU]
      exact q S o (by simp at hl; omega) hS p
theorem rngI_map : ∀ (n : Nat) (a : Int), rngI a n = (List.range n).map fun k : Nat => PyData.int (a + k)
  | 0, _ => rfl
  | n + 1, a => by
    rw [List.range_succ_eq_map, List.map_cons, List.map_map]
    show PyData.int a :: rngI (a + 1) n = _
    rw [rngI_map n (a + 1)]
    congr 1
    · simp
    · apply List.map_congr_left
      intro k _
      show PyData.int (a + 1 + k) = PyData.int (a + ((k + 1 : Nat) : Int))
      congr 1
      omega
def ni (k : Nat) : D := .int (k : Int)
theorem rng0 (n : Nat) : rngI 0 n = (List.range n).map ni := by
  rw [rngI_map]
  apply List.map_congr_left
  intro k _
  show PyData.int (0 + (k : Int)) = PyData.int k
  rw [Int.zero_add]
theorem sub_all {α : Type} : ∀ {a b : List α}, a.Sublist b → b.Nodup → (∀ x ∈ b, x ∈ a) → a = b
  | _, _, .slnil, _, _ => rfl
  | _, _, .cons x h, n, s => by
    rw [List.nodup_cons] at n
    exact absurd (h.subset (s x List.mem_cons_self)) n.1
  | _, _, .cons₂ x h, n, s => by
    rw [List.nodup_cons] at n
    congr 1
    refine sub_all h n.2 fun y hy => ?_
    rcases List.mem_cons.mp (s y (List.mem_cons_of_mem _ hy)) with e | z
    · subst e; exact absurd hy n.1
    · exact z
def Posts (n : Nat) (ps : List Nat) : Prop := ps.Sublist (List.range n) ∧ ps.length < n
def NN (ps : List Nat) : D := .tuple (ps.map ni)
theorem cut_take {α : Type} (xs : List α) (k : Nat) : cut xs none (some (k : Int)) = xs.take k := by
  unfold cut
  rw [HT.sIx_none, HT.sIx_nat, List.drop_zero, Nat.sub_zero]
  by_cases h : k ≤ xs.length
  · rw [Nat.min_eq_left h]
  · rw [Nat.min_eq_right (by omega), List.take_length, List.take_of_length_le (by omega)]
def Y (ws : List Int) (n : Nat) (ps : List Nat) : D := .tuple [I ws, .int n, NN ps]
theorem cmp_nmem_nn (k : Nat) (ps : List Nat) (Q : Bool → Prop) : wO (cmp .nmem (ni k) (NN ps)) Q = Q (!decide (k ∈ ps)) := by
  have e : NN ps = .tuple ((ps.map fun k : Nat => (k : Int)).map PyData.int) := by
    unfold NN
    rw [List.map_map]
    rfl
  rw [e]
  show wO (cmp .nmem (.int (k : Int)) _) Q = _
  rw [cmp_nmem_tup]
  congr 2
  have : ((k : Int) ∈ ps.map fun k : Nat => (k : Int)) ↔ k ∈ ps := by
    rw [List.mem_map]
    constructor
    · rintro ⟨j, hj, e⟩
      have : j = k := by omega
      rw [← this]; exact hj
    · exact fun h => ⟨k, h, rfl⟩
  exact decide_eq_decide.mpr this
def noP (ps : List Nat) (d : D) : Option D := match d with
  | .int i => if i.toNat ∈ ps then none else some d
  | _ => none
theorem noP_ni (ps : List Nat) (k : Nat) : noP ps (ni k) = if k ∈ ps then none else some (ni k) := by
  show (if (k : Int).toNat ∈ ps then none else some (ni k)) = _
  rw [Int.toNat_natCast]
theorem noP_map (ps : List Nat) : ∀ l : List Nat, (l.map ni).filterMap (noP ps) = (l.filter fun k => !decide (k ∈ ps)).map ni
  | [] => rfl
  | k :: l => by
    rw [List.map_cons, List.filterMap_cons, noP_ni, List.filter_cons]
    by_cases h : k ∈ ps
    · simp only [h, if_true, decide_true, Bool.not_true, Bool.false_eq_true, if_false]
      exact noP_map ps l
    · simp only [h, if_false, decide_false, Bool.not_false, if_true, List.map_cons]
      rw [noP_map ps l]
theorem walkers_some {n : Nat} {ps : List Nat} (h : Posts n ps) : 1 ≤ ((List.range n).filter fun k => !decide (k ∈ ps)).length := by
  cases q : (List.range n).filter fun k => !decide (k ∈ ps) with
  | cons _ _ => exact Nat.succ_le_succ (Nat.zero_le _)
  | nil =>
    have hall : ∀ x ∈ List.range n, x ∈ ps := fun x hx => by
      have := List.filter_eq_nil_iff.mp q x hx
      simpa using this
    have e := sub_all h.1 List.nodup_range hall
    have h2 := h.2
    rw [e, List.length_range] at h2
    omega
def L (l : Nat × Nat) : D := .tuple [ni l.1, ni l.2]
def LeapOk (n : Nat) (ps : List Nat) (l : Nat × Nat) : Prop := l.1 < n ∧ l.2 < n ∧ l.1 ≠ l.2 ∧ l.1 ∉ ps
theorem other_ok {n p : Nat} {t : Int} (h : 2 ≤ n) (hp : p < n) (h0 : 0 ≤ t) (h1 : t < (n : Int) - 1) : ∃ o : Nat, Int.fmod ((p : Int) + 1 + t) (n : Int) = (o : Int) ∧ o < n ∧ p ≠ o := by
  have e : Int.fmod ((p : Int) + 1 + t) (n : Int) = (((p + 1 + t.toNat) % n : Nat) : Int) := by
    rw [Int.fmod_eq_emod_of_nonneg _ (by omega)]
    have : (p : Int) + 1 + t = ((p + 1 + t.toNat : Nat) : Int) := by omega
    rw [this]
    rfl
  refine ⟨_, e, Nat.mod_lt _ (by omega), fun z => ?_⟩
  have ht : t.toNat + 1 < n := by omega
  by_cases hc : p + 1 + t.toNat < n
  · rw [Nat.mod_eq_of_lt hc] at z; omega
  · rw [Nat.mod_eq_sub_mod (by omega), Nat.mod_eq_of_lt (by omega)] at z; omega
theorem u_leap : f__law_leap.run = evF g__law_leap [f__law_take] true 4 b__law_leap := rfl
theorem leap_ok {o : List D} (p : Pile o) {ws : List Int} {n : Nat} {ps : List Nat} (h2 : 2 ≤ n) (hn : n ≤ 100) (hps : Posts n ps) (Q : DV → List D → Prop) (X) (q : ∀ l o', LeapOk n ps l → Pile o' → Q (.d (L l)) o') : wF (f__law_leap.run o [Y ws n ps]) Q X := by
  rw [u_leap, rF, show env0 true 4 o [Y ws n ps] = [.own true o, .val (.tuple [I ws, .int n, NN ps]), .un, .un] from rfl]
  simp only [b__law_leap, rS, rE, rEs, rB, rV, rZ, rC, rI, rU]
  rw [Int.toNat_natCast, rng0]
  refine ⟨big_of (by omega) (by omega), rfl, wR.imp (comp_fm (fun e => ∃ x, e = [.own true o, .val (.tuple [I ws, .int n, NN ps]), .un, x]) (noP ps) _ _ ⟨.un, rfl⟩ fun x hx e he => ?_) (fun ys e h => ?_) fun _ _ _ h => False.elim h⟩
  · obtain ⟨x0, rfl⟩ := he
    obtain ⟨k, hk, rfl⟩ := List.mem_map.mp hx
    simp only [rS, rE, rEs, rB, rV, rZ, rC, rI, rU, wipeE, cmp_nmem_nn]
    rw [noP_ni]
    by_cases h : k ∈ ps
    · simp only [h, decide_true, Bool.not_true, Bool.false_eq_true, if_false, if_true]
      exact ⟨⟨_, rfl⟩, trivial⟩
    · simp only [h, decide_false, Bool.not_false, if_false, if_true]
      exact ⟨⟨_, rfl⟩, trivial⟩
  · obtain ⟨⟨x0, rfl⟩, rfl⟩ := h
    rw [noP_map]
    have hw := walkers_some hps
    have hle : ((List.range n).filter fun k => !decide (k ∈ ps)).length ≤ n := by
      have := List.length_filter_le (fun k => !decide (k ∈ ps)) (List.range n)
      rw [List.length_range] at this
      exact this
    have hm : ∀ w ∈ (List.range n).filter (fun k => !decide (k ∈ ps)), w < n ∧ w ∉ ps := fun w hw => by
      have := List.mem_filter.mp hw
      exact ⟨List.mem_range.mp this.1, by simpa using this.2⟩
    generalize hW : ((List.range n).filter fun k => !decide (k ∈ ps)) = W at *
    refine ⟨by rw [List.length_map]; exact Nat.le_trans (show W.length ≤ 100 by omega) (by decide), ?_⟩
    rw [show putBack [Slot.own true o, .val (.tuple [I ws, .int n, NN ps]), .un, .un] [Slot.own true o, .val (.tuple [I ws, .int n, NN ps]), .un, x0] [3] = [Slot.own true o, .val (.tuple [I ws, .int n, NN ps]), .un, .un] from rfl]
    simp only [rS, rE, rEs, rB, rV, rZ, rC, rI, rU, List.length_map]
    refine ⟨rfl, rfl, take_ok p (by omega) (by omega) _ _ fun k o1 k1 k2 p1 => ?_⟩
    simp only [rS, rE, rEs, rB, rV, rZ, rC, rI, rU]
    refine at_any k1 (by rw [List.length_map]; exact k2) fun d hd => ?_
    obtain ⟨w, hwm, rfl⟩ := List.mem_map.mp hd
    obtain ⟨w1, w2⟩ := hm w hwm
    unfold ni
    simp only [rS, rE, rEs, rB, rV, rZ, rC, rI, rU]
    refine ⟨rfl, rfl, take_ok p1 (by omega) (by omega) _ _ fun t o2 t1 t2 p2 => ?_⟩
    obtain ⟨v, ev, v1, v2⟩ := other_ok h2 w1 t1 t2
    simp only [rS, rE, rEs, rB, rV, rZ, rC, rI, rU, ev]
    exact ⟨by omega, l2, q (w, v) o2 ⟨w1, v1, v2, w2⟩ p2⟩
theorem u_pile : f__law_pile.run = evF g__law_pile [] false 4 b__law_pile := rfl
def scr (ns : List Int) : D := .dict [(.none, .list (ns.map PyData.int))]
theorem pile_ok (ns : List Int) {k : Int} (hk : 0 ≤ k) (hk2 : k ≤ 100) (Q : DV → List D → Prop) (X) (q : ∀ o, Pile o → Q (.fr o) []) : wF (f__law_pile.run [] [scr ns, .int k]) Q X := by
  rw [u_pile, rF, show env0 false 4 [] [scr ns, .int k] = [.val (.dict [(.none, .list (ns.map PyData.int))]), .val (.int k), .un, .un] from rfl]
  rw [split_at _ _ _ 2 b__law_pile]
  have tail : ∀ c : Int, wS (evSs g__law_pile [] (drp 2 b__law_pile) [.val (.dict [(.none, .list (ns.map PyData.int))]), .val (.int k), .val (.int c), .un]) (endP false Q X) := fun c => by
    simp only [b__law_pile, drp, rS, rE, rEs, rB, rV, rZ, rC, rI, rU]
    have e : (10 : Int) ^ Int.toNat 50 = 10 ^ 50 := rfl
    rw [e]
    have h1 := Int.fmod_nonneg_of_pos c (b := 10 ^ 50 * 10 ^ 50 * 10 ^ 50) (by decide)
    refine ⟨⟨by decide, by decide, by decide⟩, ⟨by decide, by decide, by decide⟩, .inr (.inr (by decide +kernel)), ⟨by decide, by decide, by decide⟩, .inr (.inr (by decide +kernel)), by decide, l2, ⟨by decide, by decide, by decide⟩, ?_⟩
    have two : ∀ z : Prop, [Decidable z] → (0 : Int) ≤ (if z then 1 else 0) ∧ (if z then (1 : Int) else 0) < 2 := fun z _ => by split <;> decide
    refine at_any (xs := [_, _]) (two _).1 (two _).2 fun d hd => ?_
    have hd' : ∃ a : Int, d = .int a ∧ 0 ≤ a := by
      simp only [List.mem_cons, List.not_mem_nil, or_false] at hd
      rcases hd with rfl | rfl
      · exact ⟨0, rfl, Int.le_refl _⟩
      · exact ⟨_, rfl, h1⟩
    obtain ⟨a, rfl, ha⟩ := hd'
    exact ⟨by decide, .inl (by decide), l4, q _ ⟨_, _, _, _, rfl, ha⟩⟩
  simp only [show tk 2 b__law_pile = _ from rfl, b__law_pile, tk, rS, rE, rEs, rB, rV, rZ, rC, rI, rU, List.length_map]
  by_cases h : k < (ns.length : Int)
  · simp only [h, decide_true, if_true]
    refine at_any hk (by rw [List.length_map]; exact h) fun d hd => ?_
    obtain ⟨c, _, rfl⟩ := List.mem_map.mp hd
    exact tail c
  · simp only [h, decide_false, Bool.false_eq_true, if_false]
    exact tail 0
theorem fm_some {α β : Type} (h : α → β) : ∀ xs : List α, xs.filterMap (fun x => some (h x)) = xs.map h
  | [] => rfl
  | x :: xs => by rw [List.filterMap_cons, List.map_cons, fm_some h xs]
theorem trus_true : ∀ xs : List D, trus? (xs.map fun _ => PyData.bool true) = some (xs.map fun _ => true)
  | [] => rfl
  | x :: xs => by
    show (match truF (.bool true), trus? (xs.map fun _ => PyData.bool true) with | some b, some bs => some (b :: bs) | _, _ => none) = _
    rw [trus_true xs]
    rfl
theorem all_trues (xs : List D) (Q : DV → Prop) : wO (bi .all [.list (xs.map fun _ => PyData.bool true)]) Q = Q (.d (.bool true)) := by
  show wO ((trus? (xs.map fun _ => PyData.bool true)).map fun bs => DV.d (.bool (bs.all id))) Q = _
  rw [trus_true]
  show Q (.d (.bool ((xs.map fun _ => true).all id))) = _
  have : (xs.map fun _ => true).all id = true := by
    rw [List.all_eq_true]
    intro b hb
    obtain ⟨_, _, e⟩ := List.mem_map.mp hb
    rw [← e]; rfl
  rw [this]
/-- isinstance, of what is known -/
theorem rT : (∀ i (Q : DV → Prop), wO (bi (.isi .int) [.int i]) Q = Q (.d (.bool true))) ∧ (∀ i (Q : DV → Prop), wO (bi (.isi .bool) [.int i]) Q = Q (.d (.bool false))) ∧ (∀ xs (Q : DV → Prop), wO (bi (.isi .tuple) [.tuple xs]) Q = Q (.d (.bool true))) ∧ (∀ xs (Q : DV → Prop), wO (bi (.isi .list) [.list xs]) Q = Q (.d (.bool true))) ∧
    (∀ (Q : Bool → Prop), wO (cmp .notn .none .none) Q = Q false) ∧ (∀ (Q : Bool → Prop), Q (!true) = Q false) ∧ (∀ (Q : Bool → Prop), Q (!false) = Q true) := ⟨fun _ _ => rfl, fun _ _ => rfl, fun _ _ => rfl, fun _ _ => rfl, fun _ => rfl, fun _ => rfl, fun _ => rfl⟩
theorem u_whole : f_is_whole.run = evF g_is_whole [] false 1 b_is_whole := rfl
theorem whole_ok (i : Int) (Q : DV → List D → Prop) (X) (q : Q (.d (.bool true)) []) : wF (f_is_whole.run [] [.int i]) Q X := by
  rw [u_whole, rF, show env0 false 1 [] [.int i] = [.val (.int i)] from rfl]
  simp only [b_is_whole, rS, rE, rEs, rB, rV, rZ, rC, rI, rU, rT, Bool.not_false]
  exact q
theorem u_are_ways : f_are_ways.run = evF g_are_ways [f_is_whole] false 2 b_are_ways := rfl
theorem are_ways_ok {ws : List Int} (h1 : 1 ≤ ws.length) (h2 : ws.length ≤ 3) (hw : Ways ws) (Q : DV → List D → Prop) (X) (q : Q (.d (.bool true)) []) : wF (f_are_ways.run [] [I ws]) Q X := by
  rw [u_are_ways, rF, show env0 false 2 [] [I ws] = [.val (.tuple (ws.map PyData.int)), .un] from rfl]
  have e1 : (1 : Int) ≤ (ws.length : Int) := by omega
  have e2 : (ws.length : Int) ≤ 3 := by omega
  simp only [b_are_ways, g_are_ways, rS, rE, rEs, rB, rV, rZ, rC, rI, rU, rT, List.length_map, List.getElem?_cons_zero, wO_some, e1, e2, decide_true, if_true, Bool.not_true, Bool.false_eq_true, if_false]
  refine ⟨rfl, wR.imp (comp_fm (fun e => ∃ x, e = [.val (.tuple (ws.map PyData.int)), x]) (fun _ => some (.bool true)) _ _ ⟨.un, rfl⟩ fun x hx e he => ?_) (fun ys e h => ?_) fun _ _ _ h => False.elim h⟩
  · obtain ⟨x0, rfl⟩ := he
    obtain ⟨s, hs, rfl⟩ := List.mem_map.mp hx
    simp only [rS, rE, rEs, rB, rV, rZ, rC, rI, rU, wipeE]
    refine ⟨rfl, rfl, whole_ok s _ _ ?_⟩
    simp only [rS, rE, rEs, rB, rV, rZ, rC, rI, rU]
    rcases hw s hs with h | h
    · simp only [h, decide_true, if_true]
      exact ⟨⟨_, rfl⟩, trivial⟩
    · have h0 : ¬ s = 0 := by omega
      simp only [h0, h, decide_true, decide_false, if_true, Bool.false_eq_true, if_false]
      exact ⟨⟨_, rfl⟩, trivial⟩
  · obtain ⟨⟨x0, rfl⟩, rfl⟩ := h
    rw [fm_some, all_trues]
    exact ⟨by rw [List.length_map, List.length_map]; exact Nat.le_trans h2 (by decide), q⟩
theorem u_are_persons : f_are_persons.run = evF g_are_persons [f_is_whole] false 1 b_are_persons := rfl
theorem are_persons_ok {n : Nat} (h1 : 2 ≤ n) (h2 : n ≤ 6) (Q : DV → List D → Prop) (X) (q : Q (.d (.bool true)) []) : wF (f_are_persons.run [] [.int n]) Q X := by
  rw [u_are_persons, rF, show env0 false 1 [] [.int n] = [.val (.int n)] from rfl]
  have e1 : (2 : Int) ≤ (n : Int) := by omega
  have e2 : (n : Int) ≤ 6 := by omega
  simp only [b_are_persons, g_are_persons, rS, rE, rEs, rB, rV, rZ, rC, rI, rU, rT]
  refine ⟨rfl, rfl, whole_ok n _ _ ?_⟩
  simp only [rS, rE, rEs, rB, rV, rZ, rC, rI, rU, rT, List.getElem?_cons_zero, wO_some, e1, e2, decide_true, if_true]
  exact q
/-! posts -/
theorem cut_drop {α : Type} (xs : List α) (k : Nat) : cut xs (some (k : Int)) none = xs.drop k := by
  unfold cut
  rw [HT.sIx_none, HT.sIx_nat]
  by_cases h : k ≤ xs.length
  · rw [Nat.min_eq_left h]
    exact List.take_of_length_le (by rw [List.length_drop]; omega)
  · rw [Nat.min_eq_right (by omega), List.drop_eq_nil_of_le (Nat.le_refl _), List.drop_eq_nil_of_le (by omega)]
    simp
theorem sub_up : ∀ {ps : List Nat} {n : Nat}, ps.Sublist (List.range n) → (∀ p ∈ ps, p < n) ∧ ps.Pairwise (· < ·) := fun {ps n} h =>
  ⟨fun p hp => List.mem_range.mp (h.subset hp), List.pairwise_lt_range.sublist h⟩
theorem zip_next {ps : List Nat} (h : ps.Pairwise (· < ·)) : ∀ z ∈ zipAll [ps.map ni, (ps.map ni).drop 1], ∃ a b : Nat, z = .tuple [ni a, ni b] ∧ a < b := by
  intro z hz
  have hz : z ∈ ((ps.map ni).zip ((ps.map ni).drop 1)).map (fun p => PyData.tuple [p.1, p.2]) := hz
  obtain ⟨⟨x, y⟩, hm, rfl⟩ := List.mem_map.mp hz
  obtain ⟨i, hi⟩ := List.mem_iff_getElem?.mp hm
  obtain ⟨g1, g2⟩ := List.getElem?_zip_eq_some.mp hi
  rw [List.getElem?_drop] at g2
  rw [List.getElem?_map] at g1 g2
  cases q1 : ps[i]? with
  | none => rw [q1] at g1; cases g1
  | some a =>
    cases q2 : ps[1 + i]? with
    | none => rw [q2] at g2; cases g2
    | some b =>
      rw [q1] at g1
      rw [q2] at g2
      have g1' := Option.some.inj g1
      have g2' := Option.some.inj g2
      have ha := (List.getElem?_eq_some_iff.mp q1)
      have hb := (List.getElem?_eq_some_iff.mp q2)
      refine ⟨a, b, by rw [← g1', ← g2'], ?_⟩
      have := List.pairwise_iff_getElem.mp h i (1 + i) ha.1 hb.1 (by omega)
      rw [ha.2, hb.2] at this
      exact this
theorem u_are_posts : f_are_posts.run = evF g_are_posts [f_is_whole] false 5 b_are_posts := rfl
theorem are_posts_ok {n : Nat} {ps : List Nat} (hn : n ≤ 100) (hps : Posts n ps) (Q : DV → List D → Prop) (X) (q : Q (.d (.bool true)) []) : wF (f_are_posts.run [] [.int n, NN ps]) Q X := by
  rw [u_are_posts, rF, show env0 false 5 [] [.int n, NN ps] = [.val (.int n), .val (.tuple (ps.map ni)), .un, .un, .un] from rfl]
  obtain ⟨h1, h2⟩ := sub_up hps.1
  have hl := hps.2
  have e1 : ¬ ((n : Int) ≤ (ps.length : Int)) := by omega
  simp only [b_are_posts, rS, rE, rEs, rB, rV, rZ, rC, rI, rU, rT, List.length_map, e1, decide_false, Bool.not_true, Bool.false_eq_true, if_false]
  refine ⟨rfl, wR.imp (comp_fm (fun e => ∃ x, e = [.val (.int n), .val (.tuple (ps.map ni)), x, .un, .un]) (fun _ => some (.bool true)) _ _ ⟨.un, rfl⟩ fun x hx e he => ?_) (fun ys e h => ?_) fun _ _ _ h => False.elim h⟩
  · obtain ⟨x0, rfl⟩ := he
    obtain ⟨s, hs, rfl⟩ := List.mem_map.mp hx
    have hs1 := h1 s hs
    have z1 : (0 : Int) ≤ (s : Int) := by omega
    have z2 : (s : Int) < (n : Int) := by omega
    unfold ni
    simp only [rS, rE, rEs, rB, rV, rZ, rC, rI, rU, wipeE]
    refine ⟨rfl, rfl, whole_ok s _ _ ?_⟩
    simp only [rS, rE, rEs, rB, rV, rZ, rC, rI, rU, z1, z2, decide_true, if_true]
    exact ⟨⟨_, rfl⟩, trivial⟩
  · obtain ⟨⟨x0, rfl⟩, rfl⟩ := h
    rw [fm_some, all_trues]
    refine ⟨by rw [List.length_map, List.length_map]; exact Nat.le_trans (show ps.length ≤ 100 by omega) (by decide), ?_⟩
    rw [show putBack [Slot.val (.int n), .val (.tuple (ps.map ni)), .un, .un, .un] [Slot.val (.int n), .val (.tuple (ps.map ni)), x0, .un, .un] [2] = [Slot.val (.int n), .val (.tuple (ps.map ni)), .un, .un, .un] from rfl]
    simp only [rS, rE, rEs, rB, rV, rZ, rC, rI, rU, rT, Bool.not_true, Bool.false_eq_true, if_false]
    rw [show sl (.tuple (ps.map ni)) (some 1) none = some (.d (.tuple (cut (ps.map ni) (some ((1 : Nat) : Int)) none))) from rfl, wO_some, cut_drop]
    simp only [rZ]
    rw [show zipD false [.tuple (ps.map ni), .tuple ((ps.map ni).drop 1)] = some (zipAll [ps.map ni, (ps.map ni).drop 1]) from rfl, wO_some]
    refine ⟨rfl, wR.imp (comp_fm (fun e => ∃ x y, e = [.val (.int n), .val (.tuple (ps.map ni)), .un, x, y]) (fun _ => some (.bool true)) _ _ ⟨.un, .un, rfl⟩ fun x hx e he => ?_) (fun ys e h => ?_) fun _ _ _ h => False.elim h⟩
    · obtain ⟨x1, y1, rfl⟩ := he
      obtain ⟨a, b, rfl, hab⟩ := zip_next h2 x hx
      have z1 : (a : Int) < (b : Int) := by omega
      unfold ni
      simp only [rS, rE, rEs, rB, rV, rZ, rC, rI, rU, wipeE, z1, decide_true]
      exact ⟨⟨_, _, rfl⟩, trivial⟩
    · obtain ⟨⟨x1, y1, rfl⟩, rfl⟩ := h
      rw [fm_some, all_trues]
      refine ⟨?_, q⟩
      rw [List.length_map]
      show (((ps.map ni).zip ((ps.map ni).drop 1)).map _).length ≤ lim
      rw [List.length_map, List.length_zip, List.length_map]
      exact Nat.le_trans (Nat.le_trans (Nat.min_le_left _ _) (show ps.length ≤ 100 by omega)) (by decide)
theorem u_yard_wrong : f_yard_wrong.run = evF g_yard_wrong [f_are_ways, f_are_persons, f_are_posts] false 1 b_yard_wrong := rfl
/-- a yard -/
def YardOk (ws : List Int) (n : Nat) (ps : List Nat) : Prop := 1 ≤ ws.length ∧ ws.length ≤ 3 ∧ Ways ws ∧ 2 ≤ n ∧ n ≤ 6 ∧ Posts n ps
theorem yard_wrong_ok {ws : List Int} {n : Nat} {ps : List Nat} (y : YardOk ws n ps) (Q : DV → List D → Prop) (X) (q : Q (.d .none) []) : wF (f_yard_wrong.run [] [Y ws n ps]) Q X := by
  obtain ⟨y1, y2, y3, y4, y5, y6⟩ := y
  rw [u_yard_wrong, rF, show env0 false 1 [] [Y ws n ps] = [.val (.tuple [I ws, .int n, NN ps])] from rfl]
  have e3 : ((([I ws, PyData.int n, NN ps] : List D).length : Nat) : Int) = 3 := rfl
  simp only [b_yard_wrong, rS, rE, rEs, rB, rV, rZ, rC, rI, rU, rT, e3, decide_true, Bool.not_true, Bool.false_eq_true, if_false]
  refine ⟨rfl, rfl, are_ways_ok y1 y2 y3 _ _ ?_⟩
  simp only [rS, rE, rEs, rB, rV, rZ, rC, rI, rU, rT, Bool.not_true, Bool.false_eq_true, if_false]
  refine ⟨rfl, rfl, are_persons_ok y4 y5 _ _ ?_⟩
  simp only [rS, rE, rEs, rB, rV, rZ, rC, rI, rU, rT, Bool.not_true, Bool.false_eq_true, if_false]
  refine ⟨rfl, rfl, are_posts_ok (by omega) y6 _ _ ?_⟩
  simp only [rS, rE, rEs, rB, rV, rZ, rC, rI, rU, rT]
  exact q
theorem u_must_be_yard : f_must_be_yard.run = evF g_must_be_yard [f_yard_wrong] false 1 b_must_be_yard := rfl
theorem must_be_yard_ok {ws : List Int} {n : Nat} {ps : List Nat} (y : YardOk ws n ps) (Q : DV → List D → Prop) (X) (q : Q (.d .none) []) : wF (f_must_be_yard.run [] [Y ws n ps]) Q X := by
  rw [u_must_be_yard, rF, show env0 false 1 [] [Y ws n ps] = [.val (Y ws n ps)] from rfl]
  simp only [b_must_be_yard, rS, rE, rEs, rB, rV, rZ, rC, rI, rU, rT]
  refine ⟨rfl, rfl, yard_wrong_ok y _ _ ?_⟩
  simp only [rS, rE, rEs, rB, rV, rZ, rC, rI, rU, rT, Bool.false_eq_true, if_false]
  exact q
theorem u_is_vector : f_is_vector.run = evF g_is_vector [f_is_whole] false 3 b_is_vector := rfl
theorem is_vector_ok {v : List Int} {m : Int} (hm : m = (v.length : Int)) (hl : v.length ≤ 100) (Q : DV → List D → Prop) (X) (q : Q (.d (.bool true)) []) : wF (f_is_vector.run [] [I v, .int m]) Q X := by
  rw [u_is_vector, rF, show env0 false 3 [] [I v, .int m] = [.val (.tuple (v.map PyData.int)), .val (.int m), .un] from rfl]
  simp only [b_is_vector, rS, rE, rEs, rB, rV, rZ, rC, rI, rU, rT, List.length_map, hm, decide_true, if_true]
  refine ⟨rfl, wR.imp (comp_fm (fun e => ∃ x, e = [.val (.tuple (v.map PyData.int)), .val (.int (v.length : Int)), x]) (fun _ => some (.bool true)) _ _ ⟨.un, rfl⟩ fun x hx e he => ?_) (fun ys e h => ?_) fun _ _ _ h => False.elim h⟩
  · obtain ⟨x0, rfl⟩ := he
    obtain ⟨s, hs, rfl⟩ := List.mem_map.mp hx
    simp only [rS, rE, rEs, rB, rV, rZ, rC, rI, rU, wipeE]
    exact ⟨rfl, rfl, whole_ok s _ _ ⟨⟨_, rfl⟩, rfl⟩⟩
  · obtain ⟨⟨x0, rfl⟩, rfl⟩ := h
    rw [fm_some, all_trues]
    exact ⟨by rw [List.length_map, List.length_map]; exact Nat.le_trans hl (by decide), q⟩
theorem in_at : ∀ {ws v : List Int}, v.length = ws.length → rnd ws v = v → ∀ z ∈ List.zipWith (fun s n => ((s, n) : Int × Int)) ws v, 0 < z.1 → 0 ≤ z.2 ∧ z.2 < z.1
  | [], _, _, _, _, hz => by simp at hz
  | _ :: _, [], _, _, _, hz => by simp at hz
  | s :: ws, n :: v, hl, hr, z, hz => by
    have hr : (if 0 < s then n.fmod s else n) :: rnd ws v = n :: v := hr
    injection hr with h1 h2
    rw [List.zipWith_cons_cons] at hz
    rcases List.mem_cons.mp hz with e | hz
    · subst e
      intro h0
      have h0 : 0 < s := h0
      rw [if_pos h0] at h1
      show 0 ≤ n ∧ n < s
      rw [← h1]
      exact ⟨Int.fmod_nonneg_of_pos n h0, Int.fmod_lt_of_pos n h0⟩
    · exact in_at (by simpa using hl) h2 z hz
theorem u_is_point : f_is_point.run = evF g_is_point [f_is_vector] false 4 b_is_point := rfl
theorem is_point_ok {ws v : List Int} (hl : ws.length ≤ 100) (hw : Ways ws) (h : InW ws v) (Q : DV → List D → Prop) (X) (q : Q (.d (.bool true)) []) : wF (f_is_point.run [] [I ws, I v]) Q X := by
  rw [u_is_point, rF, show env0 false 4 [] [I ws, I v] = [.val (.tuple (ws.map PyData.int)), .val (.tuple (v.map PyData.int)), .un, .un] from rfl]
  simp only [b_is_point, rS, rE, rEs, rB, rV, rZ, rC, rI, rU, rT, List.length_map]
  refine ⟨rfl, rfl, is_vector_ok (v := v) (by rw [h.1]) (by rw [h.1]; exact hl) _ _ ?_⟩
  simp only [rS, rE, rEs, rB, rV, rZ, rC, rI, rU, rT, Bool.not_true, Bool.false_eq_true, if_false, zipD_ints true ws v (fun _ => h.1.symm)]
  refine ⟨rfl, wR.imp (comp_fm (fun e => ∃ x y, e = [.val (.tuple (ws.map PyData.int)), .val (.tuple (v.map PyData.int)), x, y]) (fun _ => some (.bool true)) _ _ ⟨.un, .un, rfl⟩ fun z hz e he => ?_) (fun ys e h => ?_) fun _ _ _ h => False.elim h⟩
  · obtain ⟨x0, y0, rfl⟩ := he
    have hz2 : ∃ p ∈ List.zipWith (fun s n => ((s, n) : Int × Int)) ws v, z = .tuple [.int p.1, .int p.2] := by
      have : List.zipWith (fun x y => PyData.tuple [.int x, .int y]) ws v = (List.zipWith (fun s n => ((s, n) : Int × Int)) ws v).map fun p => PyData.tuple [.int p.1, .int p.2] := (map_zipWith' (fun s n => ((s, n) : Int × Int)) (fun p : Int × Int => PyData.tuple [.int p.1, .int p.2]) ws v).symm
      rw [this] at hz
      obtain ⟨p, hp, e⟩ := List.mem_map.mp hz
      exact ⟨p, hp, e.symm⟩
    obtain ⟨⟨s, n⟩, hp, rfl⟩ := hz2
    have hin := in_at h.1 h.2 _ hp
    have hs : s ∈ ws := by
      obtain ⟨x, hx, y, hy, e⟩ := mem_zipWith hp
      injection e with e1 e2
      rw [e1]; exact hx
    simp only [rS, rE, rEs, rB, rV, rZ, rC, rI, rU, wipeE]
    rcases hw s hs with h0 | h0
    · simp only [h0, decide_true, if_true]
      exact ⟨⟨_, _, rfl⟩, trivial⟩
    · have h1 : ¬ s = 0 := by omega
      obtain ⟨h2, h3⟩ := hin (show 0 < s by omega)
      have h2 : (0 : Int) ≤ n := h2
      have h3 : n < s := h3
      simp only [h1, h2, h3, decide_true, decide_false, if_true, Bool.false_eq_true, if_false]
      exact ⟨⟨_, _, rfl⟩, trivial⟩
  · obtain ⟨⟨x0, y0, rfl⟩, rfl⟩ := h
    rw [fm_some, all_trues]
    refine ⟨by rw [List.length_map, List.length_zipWith]; exact Nat.le_trans (Nat.le_trans (Nat.min_le_left _ _) hl) (by decide), q⟩
/-- a standing -/
def StOk (ws : List Int) (n : Nat) (S : List (List Int)) : Prop := S.length = n ∧ ∀ v ∈ S, InW ws v
def SD (S : List (List Int)) : D := .tuple (S.map I)
theorem u_standing_in : f_standing_in.run = evF g_standing_in [f_is_point] false 5 b_standing_in := rfl
theorem fm_none {α β : Type} : ∀ xs : List α, xs.filterMap (fun _ => (none : Option β)) = []
  | [] => rfl
  | _ :: xs => by rw [List.filterMap_cons]; exact fm_none xs
theorem mem_enumD {x : D} : ∀ {xs : List D} {k : Nat}, x ∈ enumD k xs → ∃ (i : Nat) (y : D), y ∈ xs ∧ x = .tuple [.int i, y]
  | [], _, h => nomatch h
  | y :: ys, k, h => by
    rcases List.mem_cons.mp h with e | h
    · exact ⟨k, y, List.mem_cons_self, e⟩
    · obtain ⟨i, z, hz, e⟩ := mem_enumD h
      exact ⟨i, z, List.mem_cons_of_mem _ hz, e⟩
theorem standing_in_ok {ws : List Int} {n : Nat} {ps : List Nat} {S : List (List Int)} (y : YardOk ws n ps) (st : StOk ws n S) (Q : DV → List D → Prop) (X) (q : Q (.d .none) []) : wF (f_standing_in.run [] [Y ws n ps, SD S]) Q X := by
  rw [u_standing_in, rF, show env0 false 5 [] [Y ws n ps, SD S] = [.val (.tuple [I ws, .int n, NN ps]), .val (.tuple (S.map I)), .un, .un, .un] from rfl]
  obtain ⟨y1, y2, y3, y4, y5, y6⟩ := y
  simp only [b_standing_in, rS, rE, rEs, rB, rV, rZ, rC, rI, rU, rT, List.length_map, st.1, decide_true, Bool.not_true, Bool.false_eq_true, if_false]
  refine ⟨rfl, wR.imp (comp_fm (fun e => ∃ x y, e = [.val (.tuple [I ws, .int n, NN ps]), .val (.tuple (S.map I)), .un, x, y]) (fun _ => none) _ _ ⟨.un, .un, rfl⟩ fun z hz e he => ?_) (fun ys e h => ?_) fun _ _ _ h => False.elim h⟩
  · obtain ⟨x0, y0, rfl⟩ := he
    obtain ⟨i, y, hy, rfl⟩ := mem_enumD hz
    obtain ⟨v, hv, rfl⟩ := List.mem_map.mp hy
    simp only [rS, rE, rEs, rB, rV, rZ, rC, rI, rU, wipeE]
    refine ⟨rfl, rfl, is_point_ok (by omega) y3 (st.2 v hv) _ _ ?_⟩
    simp only [rS, rE, rEs, rB, rV, rZ, rC, rI, rU, Bool.not_true, Bool.false_eq_true, if_false]
    exact ⟨⟨_, _, rfl⟩, trivial⟩
  · obtain ⟨⟨x0, y0, rfl⟩, rfl⟩ := h
    rw [fm_none, show putBack [Slot.val (.tuple [I ws, .int n, NN ps]), .val (.tuple (S.map I)), .un, .un, .un] [Slot.val (.tuple [I ws, .int n, NN ps]), .val (.tuple (S.map I)), .un, x0, y0] [3, 4] = [Slot.val (.tuple [I ws, .int n, NN ps]), .val (.tuple (S.map I)), .un, .un, .un] from rfl]
    simp only [rS, rE, rEs, rB, rV, rZ, rC, rI, rU, rT, List.isEmpty_nil, Bool.not_true, Bool.false_eq_true, if_false]
    exact ⟨l0, q⟩
theorem u_must_be_standing : f_must_be_standing.run = evF g_must_be_standing [f_standing_in] false 2 b_must_be_standing := rfl
theorem must_be_standing_ok {ws : List Int} {n : Nat} {ps : List Nat} {S : List (List Int)} (y : YardOk ws n ps) (st : StOk ws n S) (Q : DV → List D → Prop) (X) (q : Q (.d .none) []) : wF (f_must_be_standing.run [] [Y ws n ps, SD S]) Q X := by
  rw [u_must_be_standing, rF, show env0 false 2 [] [Y ws n ps, SD S] = [.val (Y ws n ps), .val (SD S)] from rfl]
  simp only [b_must_be_standing, rS, rE, rEs, rB, rV, rZ, rC, rI, rU, rT]
  refine ⟨rfl, rfl, standing_in_ok y st _ _ ?_⟩
  simp only [rS, rE, rEs, rB, rV, rZ, rC, rI, rU, rT, Bool.false_eq_true, if_false]
  exact q
theorem L_I (l : Nat × Nat) : L l = I [(l.1 : Int), (l.2 : Int)] := rfl
theorem u_is_leap : f_is_leap.run = evF g_is_leap [f_is_vector] false 4 b_is_leap := rfl
theorem is_leap_ok {n : Nat} {ps : List Nat} {l : Nat × Nat} (h : LeapOk n ps l) (Q : DV → List D → Prop) (X) (q : Q (.d (.bool true)) []) : wF (f_is_leap.run [] [.int n, NN ps, L l]) Q X := by
  obtain ⟨a, b⟩ := l
  obtain ⟨h1, h2, h3, h4⟩ := h
  have h1 : a < n := h1
  have h2 : b < n := h2
  have h3 : a ≠ b := h3
  have h4 : ¬ a ∈ ps := h4
  rw [u_is_leap, rF, show env0 false 4 [] [.int n, NN ps, L (a, b)] = [.val (.int n), .val (NN ps), .val (.tuple [.int (a : Int), .int (b : Int)]), .un] from rfl]
  have e0 : ¬ (a : Int) = (b : Int) := by omega
  simp only [b_is_leap, rS, rE, rEs, rB, rV, rZ, rC, rI, rU, rT]
  refine ⟨rfl, rfl, is_vector_ok (v := [(a : Int), (b : Int)]) rfl (by show 2 ≤ 100; decide) _ _ ?_⟩
  simp only [rS, rE, rEs, rB, rV, rZ, rC, rI, rU, rT, Bool.not_true, Bool.false_eq_true, if_false, e0, decide_false]
  refine ⟨rfl, wR.imp (comp_fm (fun e => ∃ x, e = [.val (.int n), .val (NN ps), .val (.tuple [.int (a : Int), .int (b : Int)]), x]) (fun _ => some (.bool true)) _ _ ⟨.un, rfl⟩ fun x hx e he => ?_) (fun ys e h => ?_) fun _ _ _ h => False.elim h⟩
  · obtain ⟨x0, rfl⟩ := he
    have hx2 : ∃ k : Nat, x = .int (k : Int) ∧ k < n := by
      simp only [List.mem_cons, List.not_mem_nil, or_false] at hx
      rcases hx with rfl | rfl
      · exact ⟨a, rfl, h1⟩
      · exact ⟨b, rfl, h2⟩
    obtain ⟨k, rfl, hk⟩ := hx2
    have z1 : (0 : Int) ≤ (k : Int) := by omega
    have z2 : (k : Int) < (n : Int) := by omega
    simp only [rS, rE, rEs, rB, rV, rZ, rC, rI, rU, wipeE, z1, z2, decide_true, if_true]
    exact ⟨⟨_, rfl⟩, trivial⟩
  · obtain ⟨⟨x0, rfl⟩, rfl⟩ := h
    rw [fm_some, all_trues]
    refine ⟨by show 2 ≤ lim; decide, ?_⟩
    rw [show putBack [Slot.val (.int n), .val (NN ps), .val (.tuple [.int (a : Int), .int (b : Int)]), .un] [Slot.val (.int n), .val (NN ps), .val (.tuple [.int (a : Int), .int (b : Int)]), x0] [3] = [Slot.val (.int n), .val (NN ps), .val (.tuple [.int (a : Int), .int (b : Int)]), .un] from rfl]
    simp only [rS, rE, rEs, rB, rV, rZ, rC, rI, rU, rT]
    rw [show PyData.int (a : Int) = ni a from rfl, cmp_nmem_nn]
    simp only [h4, decide_false, Bool.not_false]
    exact q
theorem u_round_about : f_round_about.run = evF g_round_about [] false 4 b_round_about := rfl
theorem round_about_ok {ws v : List Int} (hl : ws.length ≤ 100) (hv : v.length = ws.length) (st : Bool) (Q : DV → List D → Prop) (X) (q : Q (.d (I (rnd ws v))) []) : wF (f_round_about.run [] [I ws, if st = true then .list (v.map PyData.int) else I v]) Q X := by
  have gen : ∀ d : D, items? d = some (v.map PyData.int) → wF (f_round_about.run [] [I ws, d]) Q X := fun d hd => by
    rw [u_round_about, rF, show env0 false 4 [] [I ws, d] = [.val (.tuple (ws.map PyData.int)), .val d, .un, .un] from rfl]
    have ez : zipD true [.tuple (ws.map PyData.int), d] = some (List.zipWith (fun x y => PyData.tuple [.int x, .int y]) ws v) := by
      have e : zipD true [.tuple (ws.map PyData.int), d] = (match [items? (.tuple (ws.map PyData.int)), items? d] with
        | [some xs, some ys] => if true = true → xs.length = ys.length then some (zipAll [xs, ys]) else none
        | [some xs, some ys, some zs] => if true = true → (xs.length = ys.length ∧ xs.length = zs.length) then some (zipAll [xs, ys, zs]) else none
        | _ => none) := rfl
      rw [e, hd, show items? (.tuple (ws.map PyData.int)) = some (ws.map PyData.int) from rfl]
      show (if true = true → (ws.map PyData.int).length = (v.map PyData.int).length then some (zipAll [ws.map PyData.int, v.map PyData.int]) else none) = _
      rw [if_pos (by simp [hv]), zip_put]
    simp only [b_round_about, rS, rE, rEs, rB, rV, rZ, rC, rI, rU, ez, wO_some]
    refine ⟨rfl, wR.imp (comp_fm (fun e => ∃ x y, e = [.val (.tuple (ws.map PyData.int)), .val d, x, y]) (on2 fun s n => .int (if 0 < s then n.fmod s else n)) _ _ ⟨.un, .un, rfl⟩ fun z hz e he => ?_) (fun ys e h => ?_) fun _ _ _ h => False.elim h⟩
    · obtain ⟨x0, y0, rfl⟩ := he
      obtain ⟨x, _, y, _, rfl⟩ := mem_zipWith hz
      simp only [rS, rE, rEs, rB, rV, rZ, rC, rI, rU, wipeE]
      by_cases h0 : 0 < x
      · simp only [h0, decide_true, if_true]
        exact ⟨by omega, ⟨_, _, rfl⟩, by show some _ = some (PyData.int (if 0 < x then y.fmod x else y)); rw [if_pos h0]⟩
      · simp only [h0, decide_false, Bool.false_eq_true, if_false]
        exact ⟨⟨_, _, rfl⟩, by show some _ = some (PyData.int (if 0 < x then y.fmod x else y)); rw [if_neg h0]⟩
    · obtain ⟨⟨x0, y0, rfl⟩, rfl⟩ := h
      rw [fm_on2 fun s n => if 0 < s then n.fmod s else n]
      exact ⟨by rw [List.length_map, List.length_zipWith]; exact Nat.le_trans (by omega) (show 100 ≤ lim by decide), q⟩
  cases st with
  | true => exact gen _ rfl
  | false => exact gen _ rfl
/-- one leap, on rings round about or not -/
def over (a b : List Int) : List Int := List.zipWith (fun h b => 2 * b - h) a b
def lp (S : List (List Int)) (l : Nat × Nat) : List (List Int) := S.set l.1 (over (S.getD l.1 []) (S.getD l.2 []))
def lpR (ws : List Int) (S : List (List Int)) (l : Nat × Nat) : List (List Int) := S.set l.1 (rnd ws (over (S.getD l.1 []) (S.getD l.2 [])))
theorem take_set {α : Type} : ∀ (S : List α) (p : Nat) (x : α), p < S.length → S.take p ++ [x] ++ S.drop (p + 1) = S.set p x
  | [], p, x, h => by simp at h
  | y :: S, 0, x, _ => rfl
  | y :: S, p + 1, x, h => by
    have ih := take_set S p x (by simpa using h)
    show y :: (S.take p ++ [x] ++ S.drop (p + 1)) = y :: S.set p x
    rw [ih]
theorem getD_mem {S : List (List Int)} {k : Nat} (h : k < S.length) : S.getD k [] ∈ S ∧ S[k]? = some (S.getD k []) := by
  have e : S.getD k [] = S[k] := by simp [List.getD, h]
  rw [e]
  exact ⟨List.getElem_mem h, by simp [h]⟩
theorem at_I {S : List (List Int)} {k : Nat} (h : k < S.length) (Q : D → Prop) : wO (L2.atI (S.map I) (k : Int)) Q = Q (I (S.getD k [])) :=
  at_nat (j := k) rfl (by rw [List.getElem?_map, (getD_mem h).2]; rfl)
theorem zipD_I (st : Bool) (a b : List Int) (h : st = true → a.length = b.length) (Q : List D → Prop) : wO (zipD st [I a, I b]) Q = Q (List.zipWith (fun x y => PyData.tuple [.int x, .int y]) a b) := zipD_ints st a b h Q
theorem fmod_over {s a b : Int} (h : 0 < s) : (2 * b.fmod s - a.fmod s).fmod s = (2 * b - a).fmod s := by
  rw [Int.fmod_eq_emod_of_nonneg _ (Int.le_of_lt h), Int.fmod_eq_emod_of_nonneg _ (Int.le_of_lt h), Int.fmod_eq_emod_of_nonneg _ (Int.le_of_lt h), Int.fmod_eq_emod_of_nonneg _ (Int.le_of_lt h)]
  rw [Int.sub_emod, Int.mul_emod, Int.emod_emod, Int.emod_emod, ← Int.mul_emod, ← Int.sub_emod]
theorem rnd_over : ∀ ws a b : List Int, rnd ws (over (rnd ws a) (rnd ws b)) = rnd ws (over a b)
  | [], _, _ => rfl
  | _ :: _, [], _ => rfl
  | _ :: _, _ :: _, [] => rfl
  | s :: ws, x :: a, y :: b => by
    have ih := rnd_over ws a b
    show (if 0 < s then (2 * (if 0 < s then y.fmod s else y) - (if 0 < s then x.fmod s else x)).fmod s else (2 * (if 0 < s then y.fmod s else y) - (if 0 < s then x.fmod s else x))) :: rnd ws (over (rnd ws a) (rnd ws b)) = (if 0 < s then (2 * y - x).fmod s else 2 * y - x) :: rnd ws (over a b)
    rw [ih]
    by_cases h : 0 < s
    · simp only [if_pos h, fmod_over h]
    · simp only [if_neg h]
theorem lay_I (v : List Int) : LayN 1 (I v) := layN_tup fun x hx => by
  obtain ⟨i, _, rfl⟩ := List.mem_map.mp hx
  exact layN_int 0 i
theorem lay_SD (S : List (List Int)) : LayN 2 (SD S) := layN_tup fun x hx => by
  obtain ⟨v, _, rfl⟩ := List.mem_map.mp hx
  exact lay_I v
theorem all2_any {α β : Type} {f : β → D} {P : β → Prop} : ∀ {xs : List α} {ys : List D}, All2 (fun _ y => ∃ r, y = f r ∧ P r) xs ys → ∃ rs : List β, ys = rs.map f ∧ rs.length = xs.length ∧ ∀ r ∈ rs, P r
  | _, _, .nil => ⟨[], rfl, rfl, fun v h => nomatch h⟩
  | _, _, .cons ⟨i, e, hi⟩ h => by
    obtain ⟨v, e2, hl, hv⟩ := all2_any h
    subst e e2
    refine ⟨i :: v, rfl, congrArg (· + 1) hl, fun w hw => ?_⟩
    rcases List.mem_cons.mp hw with z | z
    · rw [z]; exact hi
    · exact hv w z
end K06


set_option Elab.async false
set_option linter.all false
set_option maxRecDepth 100000
set_option maxHeartbeats 4000000
namespace K06
open PySem DL
/-- one column of a table -/
def cst (x : Nat → Int) (l : Nat × Nat) : Nat → Int := fun i => if i = l.1 then 2 * x l.2 - x l.1 else x i
def crun (x : Nat → Int) (ls : List (Nat × Nat)) : Nat → Int := ls.foldl cst x
def en (S : List (List Int)) (k i : Nat) : Int := (S.getD i []).getD k 0
/-- leaps that done again move all by as much -/
def SteadyX (ls : List (Nat × Nat)) : Prop := ∀ x i, crun (crun x ls) ls i - crun x ls i = crun x ls i - x i
def RunX (bd : Int) (n : Nat) (ps : List Nat) (r : List (Nat × Nat) × Int) : Prop := 1 ≤ r.1.length ∧ r.1.length ≤ 40 ∧ (∀ l ∈ r.1, LeapOk n ps l) ∧ 1 ≤ r.2 ∧ r.2 < bd ∧ (r.2 = 1 ∨ SteadyX r.1)
abbrev RunOk := RunX 100000000000
def RD (r : List (Nat × Nat) × Int) : D := .tuple [.tuple (r.1.map L), .int r.2]
theorem all2_leaps {α : Type} {n : Nat} {ps : List Nat} : ∀ {xs : List α} {ys : List D}, All2 (fun _ y => ∃ l, y = L l ∧ LeapOk n ps l) xs ys → ∃ ls : List (Nat × Nat), ys = ls.map L ∧ ls.length = xs.length ∧ ∀ l ∈ ls, LeapOk n ps l
  | _, _, .nil => ⟨[], rfl, rfl, fun v h => nomatch h⟩
  | _, _, .cons ⟨i, e, hi⟩ h => by
    obtain ⟨v, e2, hl, hv⟩ := all2_leaps h
    subst e e2
    refine ⟨i :: v, rfl, congrArg (· + 1) hl, fun w hw => ?_⟩
    rcases List.mem_cons.mp hw with z | z
    · rw [z]; exact hi
    · exact hv w z
theorem rep_len {α : Type} (k : Nat) (xs : List α) : (rep k xs).length = k * xs.length := by
  induction k with
  | zero => simp [rep]
  | succ k ih =>
    show (List.replicate (k + 1) xs).flatten.length = _
    rw [List.replicate_succ, List.flatten_cons, List.length_append]
    have : (List.replicate k xs).flatten.length = k * xs.length := ih
    rw [this, Nat.succ_mul]; omega
theorem rep_map {α β : Type} (f : α → β) (k : Nat) (xs : List α) : rep k (xs.map f) = (rep k xs).map f := by
  induction k with
  | zero => rfl
  | succ k ih =>
    show (List.replicate (k + 1) (xs.map f)).flatten = ((List.replicate (k + 1) xs).flatten).map f
    rw [List.replicate_succ, List.replicate_succ, List.flatten_cons, List.flatten_cons, List.map_append]
    congr 1
theorem rep_mem {α : Type} {k : Nat} {xs : List α} {x : α} (h : x ∈ rep k xs) : x ∈ xs := by
  unfold rep at h
  obtain ⟨l, h1, h2⟩ := List.mem_flatten.mp h
  rw [(List.mem_replicate.mp h1).2] at h2
  exact h2
theorem mul_rep {xs : List D} {k : Int} {m : Nat} (e : k = (m : Int)) (h1 : 1 ≤ m) (h2 : m ≤ 1000) (hl : xs.length ≤ 1000) (hx : xs ≠ []) (Q : DV → Prop) : wO (bin .mul (.tuple xs) (.int k)) Q = Q (.d (.tuple (rep m xs))) := by
  subst e
  show wO (if (m : Int) = 1 then some (.d (.tuple xs)) else if 2 ≤ (m : Int) ∧ (m : Int) ≤ 1000 ∧ xs.length ≤ 1000 ∧ xs ≠ [] then some (.d (.tuple (rep (m : Int).toNat xs))) else if -1000000 ≤ (m : Int) ∧ (m : Int) ≤ 0 ∧ xs ≠ [] then some (.d (.tuple [])) else none) Q = _
  by_cases z : m = 1
  · subst z
    rw [if_pos (by decide : ((1 : Nat) : Int) = 1), wO_some]
    have : rep 1 xs = xs := by simp [rep]
    rw [this]
  · rw [if_neg (by omega), if_pos ⟨by omega, by omega, hl, hx⟩, wO_some, Int.toNat_natCast]
theorem lay_RD (r : List (Nat × Nat) × Int) : LayN 3 (RD r) := layN_tup fun x hx => by
  simp only [List.mem_cons, List.not_mem_nil, or_false] at hx
  rcases hx with rfl | rfl
  · exact layN_tup fun x hx => by
      obtain ⟨l, _, rfl⟩ := List.mem_map.mp hx
      rw [L_I]
      exact lay_I _
  · exact layN_int 2 _
theorem lay_row (rs : List (List (Nat × Nat) × Int)) : LayN 4 (.list (rs.map RD)) := layN_lst fun x hx => by
  obtain ⟨r, _, rfl⟩ := List.mem_map.mp hx
  exact lay_RD r
theorem fm_len {α β : Type} (f : α → Option β) (xs : List α) : (xs.filterMap f).length ≤ xs.length := List.length_filterMap_le f xs
/-! ### any data without dicts -/
def Pn (d : D) : Prop := d.canLay0 = true
theorem pn_items {xs : List D} (h : PyData.canLayAll0 xs = true) : ∀ x ∈ xs, Pn x := by
  induction xs with
  | nil => intro x hx; cases hx
  | cons y ys ih =>
    simp only [PyData.canLayAll0, Bool.and_eq_true] at h
    intro x hx
    rcases List.mem_cons.mp hx with z | z
    · rw [z]; exact h.1
    · exact ih h.2 x z
theorem pn_tup {xs : List D} (h : Pn (.tuple xs)) : ∀ x ∈ xs, Pn x := pn_items (by simpa only [Pn, PyData.canLay0] using h)
theorem pn_lst {xs : List D} (h : Pn (.list xs)) : ∀ x ∈ xs, Pn x := pn_items (by simpa only [Pn, PyData.canLay0] using h)
theorem pn_all {xs : List D} (h : ∀ x ∈ xs, Pn x) : PyData.canLayAll0 xs = true := by
  induction xs with
  | nil => rfl
  | cons y ys ih =>
    simp only [PyData.canLayAll0, Bool.and_eq_true]
    exact ⟨h y List.mem_cons_self, ih fun x hx => h x (List.mem_cons_of_mem _ hx)⟩
theorem pn_tup_of {xs : List D} (h : ∀ x ∈ xs, Pn x) : Pn (.tuple xs) := by simp only [Pn, PyData.canLay0]; exact pn_all h
theorem pn_lst_of {xs : List D} (h : ∀ x ∈ xs, Pn x) : Pn (.list xs) := by simp only [Pn, PyData.canLay0]; exact pn_all h
theorem pn_int (i : Int) : Pn (.int i) := rfl
def isI : D → Bool
  | .int _ => true
  | _ => false
theorem isi_pn (t : Ty) {d : D} (h : Pn d) (Q : DV → Prop) : wO (bi (.isi t) [d]) Q = Q (.d (.bool (tyIs t d))) := by
  cases d <;> first | rfl | (simp only [Pn, PyData.canLay0] at h; cases h)
theorem isI_tru {d : D} (h : isI d = true) : ∃ i, d = .int i := by
  cases d <;> first | exact ⟨_, rfl⟩ | cases h
theorem trus_bools : ∀ bs : List Bool, trus? (bs.map PyData.bool) = some bs
  | [] => rfl
  | b :: bs => by
    show (match truF (.bool b), trus? (bs.map PyData.bool) with | some b, some bs => some (b :: bs) | _, _ => none) = _
    rw [trus_bools bs]
    rfl
theorem all_bools (bs : List Bool) (Q : DV → Prop) : wO (bi .all [.list (bs.map PyData.bool)]) Q = Q (.d (.bool (bs.all id))) := by
  show wO ((trus? (bs.map PyData.bool)).map fun bs => DV.d (.bool (bs.all id))) Q = _
  rw [trus_bools]
  rfl
theorem any_bools (bs : List Bool) (Q : DV → Prop) : wO (bi .any [.list (bs.map PyData.bool)]) Q = Q (.d (.bool (bs.any id))) := by
  show wO ((trus? (bs.map PyData.bool)).map fun bs => DV.d (.bool (bs.any id))) Q = _
  rw [trus_bools]
  rfl
theorem fm_bool {α : Type} (f : α → Bool) (xs : List α) : xs.filterMap (fun x => some (PyData.bool (f x))) = (xs.map f).map PyData.bool := by
  rw [List.map_map]
  exact fm_some (fun x => PyData.bool (f x)) xs
theorem lay_bools (bs : List Bool) : LayN 1 (.list (bs.map PyData.bool)) := layN_lst fun x hx => by
  obtain ⟨i, _, rfl⟩ := List.mem_map.mp hx
  exact layN_bool 0 i
/-- a truth among truths -/
theorem mem_bools (b : Bool) (bs : List Bool) (Q : Bool → Prop) : wO (cmp .mem (.bool b) (.list (bs.map PyData.bool))) Q = Q (bs.any fun c => c == b) := by
  show wO (if lay (.bool b) && lay (.list (bs.map PyData.bool)) then some ((bs.map PyData.bool).any fun z => PyData.eqv z (.bool b)) else none) Q = _
  rw [(layN_bool 0 b).lay (by decide), (lay_bools bs).lay (by decide), Bool.and_self, if_pos rfl, wO_some, List.any_map]
  rfl
theorem whole_any {d : D} (h : Pn d) (Q : DV → List D → Prop) (X) (q : Q (.d (.bool (isI d))) []) : wF (f_is_whole.run [] [d]) Q X := by
  rw [u_whole, rF, show env0 false 1 [] [d] = [.val d] from rfl]
  simp only [b_is_whole, rS, rE, rEs, rB, rV, rZ, rC, rI, rU, rT, isi_pn _ h]
  cases d <;> exact q
/-- a tuple of so many ints -/
def vecB (m : Int) : D → Bool
  | .tuple xs => decide ((xs.length : Int) = m) && xs.all isI
  | _ => false
theorem vecB_two {d : D} (h : vecB 2 d = true) : ∃ a b, d = .tuple [.int a, .int b] := by
  cases d with
  | tuple xs =>
    simp only [vecB, Bool.and_eq_true, decide_eq_true_eq] at h
    obtain ⟨h1, h2⟩ := h
    match xs, h1, h2 with
    | [x, y], _, h2 =>
      simp only [List.all_cons, List.all_nil, Bool.and_true, Bool.and_eq_true] at h2
      obtain ⟨a, rfl⟩ := isI_tru h2.1
      obtain ⟨b, rfl⟩ := isI_tru h2.2
      exact ⟨a, b, rfl⟩
    | [], h1, _ => simp at h1
    | [_], h1, _ => simp at h1
    | _ :: _ :: _ :: _, h1, _ => simp at h1; omega
  | _ => cases h
theorem all_id {α : Type} (f : α → Bool) (xs : List α) : (xs.map f).all id = xs.all f := by
  rw [List.all_map]
  rfl
theorem is_vector_any {d : D} (h : Pn d) {m : Int} (hm : m ≤ 100) (Q : DV → List D → Prop) (X) (q : Q (.d (.bool (vecB m d))) []) : wF (f_is_vector.run [] [d, .int m]) Q X := by
  rw [u_is_vector, rF, show env0 false 3 [] [d, .int m] = [.val d, .val (.int m), .un] from rfl]
  simp only [b_is_vector, rS, rE, rEs, rB, rV, rZ, rC, rI, rU, rT, isi_pn _ h]
  cases d with
  | tuple xs =>
    simp only [tyIs, rS, rE, rEs, rB, rV, rZ, rC, rI, rU, rT]
    by_cases hl : (xs.length : Int) = m
    · simp only [hl, decide_true, if_true]
      refine comp_pure (fun x => some (.bool (isI x))) rfl (fun x hx => ?_) ?_
      · simp only [rS, rE, rEs, rB, rV, rZ, rC, rI, rU, wipeE]
        exact ⟨rfl, rfl, whole_any (pn_tup h x hx) _ _ rfl⟩
      · intro e6 he
        rw [fm_bool]
        refine ⟨by rw [List.length_map, List.length_map]; exact Nat.le_trans (show xs.length ≤ 100 by omega) (by decide), ?_⟩
        rw [all_bools, all_id]
        simp only [vecB, hl, decide_true, Bool.true_and] at q
        exact q
    · simp only [hl, decide_false, Bool.false_eq_true, if_false]
      simp only [vecB, hl, decide_false, Bool.false_and] at q
      exact q
  | _ => exact q
theorem nn_ints (ps : List Nat) : NN ps = .tuple ((ps.map fun k : Nat => (k : Int)).map PyData.int) := by
  unfold NN
  rw [List.map_map]
  rfl
/-- who may leap over whom -/
def leapI (n : Nat) (ps : List Nat) (a b : Int) : Bool := !decide (a = b) && ((decide (0 ≤ a) && decide (a < (n : Int))) && (decide (0 ≤ b) && decide (b < (n : Int)))) && !decide (a ∈ ps.map fun k : Nat => (k : Int))
def leapB (n : Nat) (ps : List Nat) : D → Bool
  | .tuple [.int a, .int b] => leapI n ps a b
  | _ => false
def ltB (n : Nat) : D → Option D
  | .int i => some (.bool (decide (0 ≤ i) && decide (i < (n : Int))))
  | _ => none
theorem leapB_no {n : Nat} {ps : List Nat} {d : D} (h : vecB 2 d = false) : leapB n ps d = false := by
  unfold leapB
  split
  · rename_i a b
    simp [vecB, isI] at h
  · rfl
theorem chain2 {Q : DV → DL.Env → Prop} {a b : Int} {n : Int} {e : DL.Env} : (wO (some (decide (0 ≤ a))) fun k => if k = true then wO (some (decide (a < n))) fun k => Q (.d (.bool k)) e else Q (.d (.bool false)) e) = Q (.d (.bool (decide (0 ≤ a) && decide (a < n)))) e := by
  simp only [wO_some]
  by_cases h : 0 ≤ a
  · simp [h]
  · simp [h]
theorem is_leap_any {n : Nat} {ps : List Nat} {d : D} (h : Pn d) (Q : DV → List D → Prop) (X) (q : Q (.d (.bool (leapB n ps d))) []) : wF (f_is_leap.run [] [.int n, NN ps, d]) Q X := by
  rw [u_is_leap, rF, show env0 false 4 [] [.int n, NN ps, d] = [.val (.int n), .val (NN ps), .val d, .un] from rfl]
  simp only [b_is_leap, rS, rE, rEs, rB, rV, rZ, rC, rI, rU, rT]
  refine ⟨rfl, rfl, is_vector_any h (by decide) _ _ ?_⟩
  cases hv : vecB 2 d with
  | false =>
    simp only [rS, rE, rEs, rB, rV, rZ, rC, rI, rU, rT, Bool.not_false, if_true]
    rw [leapB_no hv] at q
    exact q
  | true =>
    obtain ⟨a, b, rfl⟩ := vecB_two hv
    simp only [rS, rE, rEs, rB, rV, rZ, rC, rI, rU, rT, Bool.not_true, Bool.false_eq_true, if_false]
    by_cases e : a = b
    · simp only [e, decide_true, if_true]
      simp only [leapB, leapI, e, decide_true, Bool.not_true, Bool.false_and] at q
      exact q
    · simp only [e, decide_false, Bool.false_eq_true, if_false]
      refine comp_pure (ltB n) rfl (fun x hx => ?_) fun e6 he => ?_
      · have hx2 : ∃ i : Int, x = .int i := by
          simp only [List.mem_cons, List.not_mem_nil, or_false] at hx
          rcases hx with rfl | rfl
          · exact ⟨a, rfl⟩
          · exact ⟨b, rfl⟩
        obtain ⟨i, rfl⟩ := hx2
        simp only [rS, rE, rEs, rB, rV, rZ, rC, rI, rU, wipeE]
        by_cases h0 : 0 ≤ i
        · simp only [ltB, h0, decide_true, if_true, Bool.true_and]
        · simp only [ltB, h0, decide_false, Bool.false_eq_true, if_false, if_true, Bool.false_and]
      · refine ⟨by show 2 ≤ lim; decide, ?_⟩
        rw [show List.filterMap (ltB n) [PyData.int a, PyData.int b] = [decide (0 ≤ a) && decide (a < (n : Int)), decide (0 ≤ b) && decide (b < (n : Int))].map PyData.bool from rfl, all_bools]
        simp only [he, rS, rE, rEs, rB, rV, rZ, rC, rI, rU, rT, List.all_cons, List.all_nil, id, Bool.and_true]
        simp only [nn_ints, cmp_nmem_tup]
        simp only [leapB, leapI, e, decide_false, Bool.not_false, Bool.true_and] at q
        cases hA : (decide (0 ≤ a) && decide (a < (n : Int)) && (decide (0 ≤ b) && decide (b < (n : Int)))) with
        | true =>
          rw [hA, Bool.true_and] at q
          simp only [if_true]
          exact q
        | false =>
          rw [hA, Bool.false_and] at q
          simp only [Bool.false_eq_true, if_false]
          exact q
def J (v : List Int) : D := .list (v.map .int)
theorem zipD_J (st : Bool) (a b : List Int) (h : st = true → a.length = b.length) (Q : List D → Prop) : wO (zipD st [J a, J b]) Q = Q (List.zipWith (fun x y => PyData.tuple [.int x, .int y]) a b) := by
  have e : zipD st [J a, J b] = if st = true → (a.map PyData.int).length = (b.map PyData.int).length then some (zipAll [a.map PyData.int, b.map PyData.int]) else none := rfl
  rw [e, if_pos (by simpa using h), wO_some, zip_put]
theorem at_J {S : List (List Int)} {k : Nat} (h : k < S.length) (Q : D → Prop) : wO (L2.atI (S.map J) (k : Int)) Q = Q (J (S.getD k [])) :=
  at_nat (j := k) rfl (by rw [List.getElem?_map, (getD_mem h).2]; rfl)
/-- the unit table -/
def unitM (n : Nat) : List (List Int) := (List.range n).map fun i => (List.range n).map fun j => if i = j then 1 else 0
theorem u_unit : f_unit.run = evF g_unit [] false 3 b_unit := rfl
def un1 (i : Nat) (d : D) : Option D := match d with
  | .int j => some (.int (if (i : Int) = j then 1 else 0))
  | _ => none
def un2 (n : Nat) (d : D) : Option D := match d with
  | .int j => some (J ((List.range n).map fun k => if j.toNat = k then 1 else 0))
  | _ => none
theorem fm_ni {β : Type} (g : D → Option β) (h : Nat → β) (e : ∀ k, g (ni k) = some (h k)) : ∀ l : List Nat, (l.map ni).filterMap g = l.map h
  | [] => rfl
  | k :: l => by rw [List.map_cons, List.filterMap_cons, e, List.map_cons, fm_ni g h e l]
theorem unit_ok {n : Nat} (hn : n ≤ 100) (Q : DV → List D → Prop) (X) (q : Q (.fr ((unitM n).map J)) []) : wF (f_unit.run [] [.int n]) Q X := by
  rw [u_unit, rF, show env0 false 3 [] [.int n] = [.val (.int n), .un, .un] from rfl]
  simp only [b_unit, rS, rE, rEs, rB, rV, rZ, rC, rI, rU]
  rw [Int.toNat_natCast, rng0]
  refine ⟨big_of (by omega) (by omega), rfl, wR.imp (comp_fm (fun e => ∃ x, e = [.val (.int n), x, .un]) (un2 n) _ _ ⟨.un, rfl⟩ fun z hz e he => ?_) (fun ys e h => ?_) fun _ _ _ h => False.elim h⟩
  · obtain ⟨x0, rfl⟩ := he
    obtain ⟨i, hi, rfl⟩ := List.mem_map.mp hz
    unfold ni
    simp only [rS, rE, rEs, rB, rV, rZ, rC, rI, rU, wipeE]
    rw [Int.toNat_natCast, rng0]
    refine ⟨big_of (by omega) (by omega), rfl, wR.imp (comp_fm (fun e => ∃ x, e = [.val (.int n), .val (.int i), x]) (un1 i) _ _ ⟨.un, rfl⟩ fun z hz e he => ?_) (fun ys e h => ?_) fun _ _ _ h => False.elim h⟩
    · obtain ⟨x1, rfl⟩ := he
      obtain ⟨j, hj, rfl⟩ := List.mem_map.mp hz
      unfold ni
      simp only [rS, rE, rEs, rB, rV, rZ, rC, rI, rU, wipeE]
      refine ⟨⟨_, rfl⟩, ?_⟩
      show some (PyData.int (if decide ((i : Int) = (j : Int)) = true then 1 else 0)) = some (PyData.int (if (i : Int) = (j : Int) then 1 else 0))
      congr 2
      simp
    · obtain ⟨⟨x1, rfl⟩, rfl⟩ := h
      rw [fm_ni (un1 i) (fun j => .int (if i = j then 1 else 0)) (fun k => by
        show some (PyData.int (if (i : Int) = (k : Int) then 1 else 0)) = _
        by_cases hk : i = k
        · subst hk; simp
        · have : ¬ (i : Int) = (k : Int) := by omega
          simp [hk, this])]
      refine ⟨by rw [List.length_map, List.length_range]; exact Nat.le_trans hn (by decide), ⟨_, rfl⟩, ?_⟩
      show some (PyData.list _) = some (J ((List.range n).map fun k => if ((i : Int)).toNat = k then 1 else 0))
      rw [Int.toNat_natCast]
      unfold J
      rw [List.map_map]
      rfl
  · obtain ⟨⟨x0, rfl⟩, rfl⟩ := h
    rw [fm_ni (un2 n) (fun i => J ((List.range n).map fun k => if i = k then 1 else 0)) (fun k => by
      show some (J ((List.range n).map fun j => if ((k : Int)).toNat = j then 1 else 0)) = _
      rw [Int.toNat_natCast])]
    refine ⟨by rw [List.length_map, List.length_range]; exact Nat.le_trans hn (by decide), ?_⟩
    have e : (List.range n).map (fun i => J ((List.range n).map fun k => if i = k then 1 else 0)) = (unitM n).map J := by
      unfold unitM
      rw [List.map_map]
      rfl
    rw [e]
    exact q
/-- a table, n rows of width w -/
def Tab (n w : Nat) (S : List (List Int)) : Prop := S.length = n ∧ ∀ v ∈ S, v.length = w
theorem lp_tab {n w : Nat} {S : List (List Int)} {l : Nat × Nat} (h : Tab n w S) (h1 : l.1 < n) (h2 : l.2 < n) : Tab n w (lp S l) := by
  refine ⟨by unfold lp; rw [List.length_set]; exact h.1, fun v hv => ?_⟩
  rcases List.mem_or_eq_of_mem_set hv with z | z
  · exact h.2 v z
  · rw [z]
    unfold over
    rw [List.length_zipWith, h.2 _ (getD_mem (by rw [h.1]; exact h1)).1, h.2 _ (getD_mem (by rw [h.1]; exact h2)).1, Nat.min_self]
theorem unit_tab (n : Nat) : Tab n n (unitM n) := by
  refine ⟨by unfold unitM; rw [List.length_map, List.length_range], fun v hv => ?_⟩
  unfold unitM at hv
  obtain ⟨i, _, rfl⟩ := List.mem_map.mp hv
  rw [List.length_map, List.length_range]
def places (S : List (List Int)) (ls : List (Nat × Nat)) : List (List Int) := ls.foldl lp S
theorem ixN_nat {n j : Nat} (h : j < n) (Q : Nat → Prop) : wO (L2.ixN n (j : Int)) Q = Q j := by
  have e : L2.ixN n (j : Int) = some j := by
    unfold L2.ixN
    rw [if_pos (by omega), if_pos (by omega)]
    rfl
  rw [e, wO_some]
theorem u_table_of : f_table_of.run = evF g_table_of [f_unit] false 7 b_table_of := rfl
theorem table_of_ok {n : Nat} (hn : n ≤ 100) {ls : List (Nat × Nat)} (hl : ∀ l ∈ ls, l.1 < n ∧ l.2 < n) (Q : DV → List D → Prop) (X) (q : Q (.fr ((places (unitM n) ls).map J)) []) : wF (f_table_of.run [] [.int n, .tuple (ls.map L)]) Q X := by
  rw [u_table_of, rF, show env0 false 7 [] [.int n, .tuple (ls.map L)] = [.val (.int n), .val (.tuple (ls.map L)), .un, .un, .un, .un, .un] from rfl]
  simp only [b_table_of, rS, rE, rEs, rB, rV, rZ, rC, rI, rU]
  refine ⟨rfl, rfl, unit_ok hn _ _ ?_⟩
  simp only [rS, rE, rEs, rB, rV, rZ, rC, rI, rU]
  refine for_inv (fun r e => ∃ (S : List (List Int)) (rest : List (Nat × Nat)) (x3 x4 : Slot), e = [.val (.int n), .val (.tuple (ls.map L)), .own false (S.map J), x3, x4, .un, .un] ∧ Tab n n S ∧ r = rest.map L ∧ (∀ l ∈ rest, l.1 < n ∧ l.2 < n) ∧ places S rest = places (unitM n) ls) (fun x r e h => ?_) (fun e h => ?_) _ _ ⟨unitM n, ls, .un, .un, rfl, unit_tab n, rfl, hl, rfl⟩
  · obtain ⟨S, rest, x3, x4, rfl, hS, hr, hb, hp⟩ := h
    cases rest with
    | nil => cases hr
    | cons l rest =>
      obtain ⟨a, b⟩ := l
      injection hr with hr1 hr2
      subst hr1 hr2
      obtain ⟨h1, h2⟩ := hb (a, b) List.mem_cons_self
      have h1 : a < n := h1
      have h2 : b < n := h2
      have ka : a < S.length := by rw [hS.1]; exact h1
      have kb : b < S.length := by rw [hS.1]; exact h2
      simp only [L, ni, rS, rE, rEs, rB, rV, rZ, rC, rI, rU, at_J ka, at_J kb]
      have la := hS.2 _ (getD_mem ka).1
      have lb := hS.2 _ (getD_mem kb).1
      rw [zipD_J true _ _ (fun _ => by rw [la, lb])]
      refine ⟨rfl, wR.imp (comp_fm (fun e => ∃ x y, e = [.val (.int n), .val (.tuple (ls.map L)), .own false (S.map J), .val (.int a), .val (.int b), x, y]) (on2 fun h b => .int (2 * b - h)) _ _ ⟨.un, .un, rfl⟩ fun z hz e he => ?_) (fun ys e h => ?_) fun _ _ _ h => False.elim h⟩
      · obtain ⟨x0, y0, rfl⟩ := he
        obtain ⟨x, _, y, _, rfl⟩ := mem_zipWith hz
        simp only [rS, rE, rEs, rB, rV, rZ, rC, rI, rU, wipeE]
        exact ⟨.inl (by decide), ⟨_, _, rfl⟩, rfl⟩
      · obtain ⟨⟨x0, y0, rfl⟩, rfl⟩ := h
        rw [fm_on2 fun h b => 2 * b - h]
        refine ⟨by rw [List.length_map, List.length_zipWith, la, lb, Nat.min_self]; exact Nat.le_trans hn (by decide), ?_⟩
        rw [show putBack [Slot.val (.int n), .val (.tuple (ls.map L)), .own false (S.map J), .val (.int a), .val (.int b), .un, .un] [Slot.val (.int n), .val (.tuple (ls.map L)), .own false (S.map J), .val (.int a), .val (.int b), x0, y0] [5, 6] = [Slot.val (.int n), .val (.tuple (ls.map L)), .own false (S.map J), .val (.int a), .val (.int b), .un, .un] from rfl]
        simp only [rS, rE, rEs, rB, rV, rZ, rC, rI, rU, List.length_map, ixN_nat ka]
        refine ⟨lp S (a, b), rest, .val (.int (a : Int)), .val (.int (b : Int)), ?_, lp_tab hS h1 h2, rfl, fun l hl => hb l (List.mem_cons_of_mem _ hl), hp⟩
        have e : (S.map J).set a (.list ((List.zipWith (fun h b => 2 * b - h) (S.getD a []) (S.getD b [])).map PyData.int)) = (lp S (a, b)).map J := by
          unfold lp
          rw [List.map_set]
          rfl
        rw [e]
  · obtain ⟨S, rest, x3, x4, rfl, hS, hr, hb, hp⟩ := h
    cases rest with
    | cons _ _ => cases hr
    | nil =>
      simp only [rS, rE, rEs, rB, rV, rZ, rC, rI, rU]
      rw [← hp]  at q
      exact q
theorem mem_enum : ∀ {xs : List D} {k : Nat} {z : D}, z ∈ enumD k xs → ∃ (i : Nat) (x : D), x ∈ xs ∧ z = .tuple [.int i, x]
  | [], _, _, h => by cases h
  | x :: r, k, z, h => by
    rcases List.mem_cons.mp h with e | h
    · exact ⟨k, x, List.mem_cons_self, e⟩
    · obtain ⟨i, y, hy, e⟩ := mem_enum h
      exact ⟨i, y, List.mem_cons_of_mem _ hy, e⟩
/-- a table less the unit table -/
def chR (i : Nat) : Nat → List Int → List Int
  | _, [] => []
  | k, x :: r => (x - if k = i then 1 else 0) :: chR i (k + 1) r
def chM : Nat → List (List Int) → List (List Int)
  | _, [] => []
  | k, v :: r => chR k 0 v :: chM (k + 1) r
def ch1 (i : Int) (d : D) : Option D := match d with
  | .tuple [.int j, .int x] => some (.int (x - if j = i then 1 else 0))
  | _ => none
def ch2 (d : D) : Option D := match d with
  | .tuple [.int i, .list vs] => some (.list ((enumD 0 vs).filterMap (ch1 i)))
  | _ => none
theorem ch1_fm (i : Nat) : ∀ (k : Nat) (v : List Int), (enumD k (v.map .int)).filterMap (ch1 i) = (chR i k v).map .int
  | _, [] => rfl
  | k, x :: r => by
    rw [List.map_cons, enumD, List.filterMap_cons]
    show PyData.int (x - if (k : Int) = (i : Int) then 1 else 0) :: _ = _
    rw [ch1_fm i (k + 1) r, chR, List.map_cons]
    congr 2
    by_cases h : k = i
    · subst h; simp
    · have : ¬ (k : Int) = (i : Int) := by omega
      simp [h, this]
theorem ch2_fm : ∀ (k : Nat) (S : List (List Int)), (enumD k (S.map J)).filterMap ch2 = (chM k S).map J
  | _, [] => rfl
  | k, v :: r => by
    rw [List.map_cons, enumD, List.filterMap_cons]
    show PyData.list ((enumD 0 (v.map .int)).filterMap (ch1 (k : Int))) :: _ = _
    rw [ch2_fm (k + 1) r, chM, List.map_cons, ch1_fm]
    rfl
theorem enum_len : ∀ (k : Nat) (xs : List D), (enumD k xs).length = xs.length
  | _, [] => rfl
  | k, _ :: r => congrArg (· + 1) (enum_len (k + 1) r)
theorem chR_len (i : Nat) : ∀ (k : Nat) (v : List Int), (chR i k v).length = v.length
  | _, [] => rfl
  | k, _ :: r => congrArg (· + 1) (chR_len i (k + 1) r)
theorem chM_len : ∀ (k : Nat) (S : List (List Int)), (chM k S).length = S.length
  | _, [] => rfl
  | k, _ :: r => congrArg (· + 1) (chM_len (k + 1) r)
theorem chM_tab {w : Nat} : ∀ {k : Nat} {S : List (List Int)}, (∀ v ∈ S, v.length = w) → ∀ v ∈ chM k S, v.length = w
  | _, [], _, v, h => by cases h
  | k, u :: r, hS, v, h => by
    rcases List.mem_cons.mp h with e | h
    · rw [e, chR_len]; exact hS u List.mem_cons_self
    · exact chM_tab (fun v hv => hS v (List.mem_cons_of_mem _ hv)) v h
theorem pl_tab {n w : Nat} : ∀ {ls : List (Nat × Nat)} {S : List (List Int)}, Tab n w S → (∀ l ∈ ls, l.1 < n ∧ l.2 < n) → Tab n w (places S ls)
  | [], _, h, _ => h
  | l :: r, S, h, hl => pl_tab (ls := r) (lp_tab h (hl l List.mem_cons_self).1 (hl l List.mem_cons_self).2) fun l h => hl l (List.mem_cons_of_mem _ h)
/-- the change of a run -/
def chg (n : Nat) (ls : List (Nat × Nat)) : List (List Int) := chM 0 (places (unitM n) ls)
theorem u_change : f_change_of.run = evF g_change_of [f_table_of] false 7 b_change_of := rfl
theorem change_ok {n : Nat} (hn : n ≤ 100) {ls : List (Nat × Nat)} (hl : ∀ l ∈ ls, l.1 < n ∧ l.2 < n) (Q : DV → List D → Prop) (X) (q : Q (.fr ((chg n ls).map J)) []) : wF (f_change_of.run [] [.int n, .tuple (ls.map L)]) Q X := by
  rw [u_change, rF, show env0 false 7 [] [.int n, .tuple (ls.map L)] = [.val (.int n), .val (.tuple (ls.map L)), .un, .un, .un, .un, .un] from rfl]
  simp only [b_change_of, rS, rE, rEs, rB, rV, rZ, rC, rI, rU]
  refine ⟨rfl, rfl, table_of_ok hn hl _ _ ?_⟩
  have hT := pl_tab (unit_tab n) hl
  simp only [rS, rE, rEs, rB, rV, rZ, rC, rI, rU]
  refine ⟨rfl, wR.imp (comp_fm (fun e => ∃ x y, e = [.val (.int n), .val (.tuple (ls.map L)), .val (.list ((places (unitM n) ls).map J)), x, y, .un, .un]) ch2 _ _ ⟨.un, .un, rfl⟩ fun z hz e he => ?_) (fun ys e h => ?_) fun _ _ _ h => False.elim h⟩
  · obtain ⟨x0, y0, rfl⟩ := he
    obtain ⟨i, d, hd, rfl⟩ := mem_enum hz
    obtain ⟨v, hv, rfl⟩ := List.mem_map.mp hd
    have lv := hT.2 v hv
    simp only [J, rS, rE, rEs, rB, rV, rZ, rC, rI, rU, wipeE]
    refine ⟨rfl, wR.imp (comp_fm (fun e => ∃ x y, e = [.val (.int n), .val (.tuple (ls.map L)), .val (.list ((places (unitM n) ls).map J)), .val (.int i), .val (J v), x, y]) (ch1 i) _ _ ⟨.un, .un, rfl⟩ fun z hz e he => ?_) (fun ys e h => ?_) fun _ _ _ h => False.elim h⟩
    · obtain ⟨x1, y1, rfl⟩ := he
      obtain ⟨j, d, hd, rfl⟩ := mem_enum hz
      obtain ⟨x, hx, rfl⟩ := List.mem_map.mp hd
      simp only [rS, rE, rEs, rB, rV, rZ, rC, rI, rU, wipeE]
      refine ⟨⟨_, _, rfl⟩, ?_⟩
      show some (PyData.int (x - if decide ((j : Int) = (i : Int)) = true then 1 else 0)) = some (PyData.int (x - if (j : Int) = (i : Int) then 1 else 0))
      congr 3
      simp
    · obtain ⟨⟨x1, y1, rfl⟩, rfl⟩ := h
      rw [ch1_fm]
      refine ⟨by rw [List.length_map, chR_len, lv]; exact Nat.le_trans hn (by decide), ⟨_, _, rfl⟩, ?_⟩
      show some (PyData.list _) = some (PyData.list ((enumD 0 (v.map PyData.int)).filterMap (ch1 i)))
      rw [ch1_fm]
  · obtain ⟨⟨x0, y0, rfl⟩, rfl⟩ := h
    rw [ch2_fm]
    refine ⟨by rw [List.length_map, chM_len, hT.1]; exact Nat.le_trans hn (by decide), q⟩
def colJ (B : List (List Int)) (j : Nat) : List Int := B.map fun v => v.getD j 0
def colsM (w : Nat) (B : List (List Int)) : List (List Int) := (List.range w).map (colJ B)
def dot (a b : List Int) : Int := (List.zipWith (fun x y => x * y) a b).sum
def prodM (w : Nat) (A B : List (List Int)) : List (List Int) := A.map fun r => (colsM w B).map (dot r)
theorem sum_ints (v : List Int) (Q : DV → Prop) : wO (bi .sum [.list (v.map .int)]) Q = Q (.d (.int v.sum)) := by
  have e : ints? (v.map PyData.int) = some v := by
    induction v with
    | nil => rfl
    | cons x v ih =>
      show (ints? (v.map PyData.int)).map (x :: ·) = _
      rw [ih]
      rfl
  show wO ((ints? (v.map PyData.int)).map fun ns => DV.d (.int ns.sum)) Q = _
  rw [e]; rfl
theorem fm_map {α β γ : Type} {f : α → β} {g : β → Option γ} {h : α → γ} : ∀ {xs : List α}, (∀ x ∈ xs, g (f x) = some (h x)) → (xs.map f).filterMap g = xs.map h
  | [], _ => rfl
  | x :: r, e => by rw [List.map_cons, List.filterMap_cons, e x List.mem_cons_self, List.map_cons, fm_map fun y hy => e y (List.mem_cons_of_mem _ hy)]
def pc1 (B : List (List Int)) (d : D) : Option D := match d with
  | .int j => some (J (colJ B j.toNat))
  | _ => none
def pc2 (j : Nat) (d : D) : Option D := match d with
  | .list vs => vs[j]?
  | _ => none
theorem pc2_J {v : List Int} {j : Nat} (h : j < v.length) : pc2 j (J v) = some (.int (v.getD j 0)) := by
  show (v.map PyData.int)[j]? = _
  rw [List.getElem?_map, List.getD_eq_getElem?_getD, List.getElem?_eq_getElem h]
  rfl
def pd2 (r : List Int) (d : D) : Option D := match d with
  | .list vs => (ints? vs).map fun c => .int (dot r c)
  | _ => none
def pd1 (C : List (List Int)) (d : D) : Option D := match d with
  | .list vs => (ints? vs).map fun r => J (C.map (dot r))
  | _ => none
theorem ints_J (v : List Int) : ints? (v.map PyData.int) = some v := by
  induction v with
  | nil => rfl
  | cons x v ih =>
    show (ints? (v.map PyData.int)).map (x :: ·) = _
    rw [ih]
    rfl
theorem colJ_len (B : List (List Int)) (j : Nat) : (colJ B j).length = B.length := by unfold colJ; rw [List.length_map]
theorem colsM_len (w : Nat) (B : List (List Int)) : (colsM w B).length = w := by unfold colsM; rw [List.length_map, List.length_range]
theorem u_product : f_product.run = evF g_product [] false 9 b_product := rfl
def t_product : Sxs := drp 1 b_product
theorem product_tail {n : Nat} (hn : n ≤ 100) {A B C : List (List Int)} (hA : Tab n n A) (hC : Tab n n C) (hs : ∀ v ∈ A, ∀ x ∈ v, x.natAbs < 2 ^ 64) (Q : DV → List D → Prop) (X) (q : Q (.fr ((A.map fun r => C.map (dot r)).map J)) []) :
    wS (evSs g_product [] t_product [.val (.list (A.map J)), .val (.list (B.map J)), .val (.list (C.map J)), .un, .un, .un, .un, .un, .un]) (endP false Q X) := by
  simp only [t_product, b_product, drp, rS, rE, rEs, rB, rV, rZ, rC, rI, rU]
  refine ⟨rfl, wR.imp (comp_fm (fun e => ∃ x, e = [.val (.list (A.map J)), .val (.list (B.map J)), .val (.list (C.map J)), .un, x, .un, .un, .un, .un]) (pd1 C) _ _ ⟨.un, rfl⟩ fun z hz e he => ?_) (fun ys e h => ?_) fun _ _ _ h => False.elim h⟩
  · obtain ⟨x0, rfl⟩ := he
    obtain ⟨r, hr, rfl⟩ := List.mem_map.mp hz
    simp only [J, rS, rE, rEs, rB, rV, rZ, rC, rI, rU, wipeE]
    refine ⟨rfl, wR.imp (comp_fm (fun e => ∃ x, e = [.val (.list (A.map J)), .val (.list (B.map J)), .val (.list (C.map J)), .un, .val (J r), .un, x, .un, .un]) (pd2 r) _ _ ⟨.un, rfl⟩ fun z hz e he => ?_) (fun ys e h => ?_) fun _ _ _ h => False.elim h⟩
    · obtain ⟨x1, rfl⟩ := he
      obtain ⟨c, hc, rfl⟩ := List.mem_map.mp hz
      have lr := hA.2 r hr
      have lc := hC.2 c hc
      simp only [J, rS, rE, rEs, rB, rV, rZ, rC, rI, rU, wipeE]
      rw [show PyData.list (r.map PyData.int) = J r from rfl, show PyData.list (c.map PyData.int) = J c from rfl, zipD_J true _ _ (fun _ => by rw [lr, lc])]
      refine ⟨rfl, wR.imp (comp_fm (fun e => ∃ x y, e = [.val (.list (A.map J)), .val (.list (B.map J)), .val (.list (C.map J)), .un, .val (J r), .un, .val (J c), x, y]) (on2 fun x y => .int (x * y)) _ _ ⟨.un, .un, rfl⟩ fun z hz e he => ?_) (fun ys e h => ?_) fun _ _ _ h => False.elim h⟩
      · obtain ⟨x2, y2, rfl⟩ := he
        obtain ⟨x, hx, y, _, rfl⟩ := mem_zipWith hz
        simp only [rS, rE, rEs, rB, rV, rZ, rC, rI, rU, wipeE]
        exact ⟨.inl (hs r hr x hx), ⟨_, _, rfl⟩, rfl⟩
      · obtain ⟨⟨x2, y2, rfl⟩, rfl⟩ := h
        rw [fm_on2 fun x y => x * y]
        refine ⟨by rw [List.length_map, List.length_zipWith, lr, lc, Nat.min_self]; exact Nat.le_trans hn (by decide), ?_⟩
        simp only [rS, rE, rEs, rB, rV, rZ, rC, rI, rU, sum_ints]
        refine ⟨⟨_, rfl⟩, ?_⟩
        show _ = (ints? (c.map PyData.int)).map fun c => PyData.int (dot r c)
        rw [ints_J]
        rfl
    · obtain ⟨⟨x1, rfl⟩, rfl⟩ := h
      have e : (C.map J).filterMap (pd2 r) = (C.map (dot r)).map PyData.int := by
        rw [fm_map (h := fun c => PyData.int (dot r c)) fun c _ => by
          show (ints? (c.map PyData.int)).map (fun c => PyData.int (dot r c)) = _
          rw [ints_J]; rfl, List.map_map]
        rfl
      rw [e]
      refine ⟨by rw [List.length_map, List.length_map, hC.1]; exact Nat.le_trans hn (by decide), ⟨_, rfl⟩, ?_⟩
      show _ = (ints? (r.map PyData.int)).map fun r => J (C.map (dot r))
      rw [ints_J]
      rfl
  · obtain ⟨⟨x0, rfl⟩, rfl⟩ := h
    rw [fm_map (h := fun r => J (C.map (dot r))) fun r _ => by
      show (ints? (r.map PyData.int)).map (fun r => J (C.map (dot r))) = _
      rw [ints_J]; rfl]
    refine ⟨by rw [List.length_map, hA.1]; exact Nat.le_trans hn (by decide), ?_⟩
    rw [List.map_map] at q
    exact q
theorem product_ok {n : Nat} (hn : n ≤ 100) (h1 : 1 ≤ n) {A B : List (List Int)} (hA : Tab n n A) (hB : Tab n n B) (hs : ∀ v ∈ A, ∀ x ∈ v, x.natAbs < 2 ^ 64) (Q : DV → List D → Prop) (X) (q : Q (.fr ((prodM n A B).map J)) []) : wF (f_product.run [] [.list (A.map J), .list (B.map J)]) Q X := by
  rw [u_product, rF, show env0 false 9 [] [.list (A.map J), .list (B.map J)] = [.val (.list (A.map J)), .val (.list (B.map J)), .un, .un, .un, .un, .un, .un, .un] from rfl]
  rw [split_at _ _ _ 1 b_product, show drp 1 b_product = t_product from rfl]
  simp only [b_product, tk, rS, rE, rEs, rB, rV, rZ, rC, rI, rU]
  have hb : (!(B.map J).isEmpty) = true := by
    cases B with
    | nil => have := hB.1; simp at this; omega
    | cons _ _ => rfl
  rw [if_pos hb, show (0 : Int) = ((0 : Nat) : Int) from rfl, at_J (show 0 < B.length by rw [hB.1]; omega)]
  have l0' := hB.2 _ (getD_mem (show 0 < B.length by rw [hB.1]; omega)).1
  simp only [J, rS, rE, rEs, rB, rV, rZ, rC, rI, rU, List.length_map, l0']
  rw [Int.toNat_natCast, rng0]
  refine ⟨big_of (by omega) (by omega), rfl, wR.imp (comp_fm (fun e => ∃ x, e = [.val (.list (A.map J)), .val (.list (B.map J)), .un, x, .un, .un, .un, .un, .un]) (pc1 B) _ _ ⟨.un, rfl⟩ fun z hz e he => ?_) (fun ys e h => ?_) fun _ _ _ h => False.elim h⟩
  · obtain ⟨x0, rfl⟩ := he
    obtain ⟨j, hj, rfl⟩ := List.mem_map.mp hz
    have hj := List.mem_range.mp hj
    unfold ni
    simp only [rS, rE, rEs, rB, rV, rZ, rC, rI, rU, wipeE]
    refine ⟨rfl, wR.imp (comp_fm (fun e => ∃ x, e = [.val (.list (A.map J)), .val (.list (B.map J)), .un, .val (.int j), .un, x, .un, .un, .un]) (pc2 j) _ _ ⟨.un, rfl⟩ fun z hz e he => ?_) (fun ys e h => ?_) fun _ _ _ h => False.elim h⟩
    · obtain ⟨x1, rfl⟩ := he
      obtain ⟨v, hv, rfl⟩ := List.mem_map.mp hz
      have lv := hB.2 v hv
      simp only [J, rS, rE, rEs, rB, rV, rZ, rC, rI, rU, wipeE]
      rw [at_nat (j := j) (d := .int (v.getD j 0)) rfl (pc2_J (by omega))]
      exact ⟨⟨_, rfl⟩, (pc2_J (by omega)).symm⟩
    · obtain ⟨⟨x1, rfl⟩, rfl⟩ := h
      have e : (B.map J).filterMap (pc2 j) = (colJ B j).map PyData.int := by
        rw [fm_map (h := fun v => PyData.int (v.getD j 0)) fun v hv => pc2_J (by rw [hB.2 v hv]; exact hj)]
        unfold colJ
        rw [List.map_map]
        rfl
      rw [e]
      refine ⟨by rw [List.length_map, colJ_len, hB.1]; exact Nat.le_trans hn (by decide), ⟨_, rfl⟩, ?_⟩
      show _ = some (J (colJ B ((j : Int)).toNat))
      rw [Int.toNat_natCast]
      rfl
  · obtain ⟨⟨x0, rfl⟩, rfl⟩ := h
    rw [fm_ni (pc1 B) (fun j => J (colJ B j)) (fun k => by
      show some (J (colJ B ((k : Int)).toNat)) = _
      rw [Int.toNat_natCast])]
    refine ⟨by rw [List.length_map, List.length_range]; exact Nat.le_trans hn (by decide), ?_⟩
    rw [show (List.range n).map (fun j => J (colJ B j)) = (colsM n B).map J by unfold colsM; rw [List.map_map]; rfl]
    exact product_tail hn hA ⟨colsM_len n B, fun v hv => by
      unfold colsM at hv
      obtain ⟨j, _, rfl⟩ := List.mem_map.mp hv
      rw [colJ_len, hB.1]⟩ hs Q X q
/-- entries of bounded size -/
def Bd (b : Nat) (S : List (List Int)) : Prop := ∀ v ∈ S, ∀ x ∈ v, x.natAbs ≤ b
theorem lp_bd {b n w : Nat} {S : List (List Int)} {l : Nat × Nat} (hS : Tab n w S) (h1 : l.1 < n) (h2 : l.2 < n) (h : Bd b S) : Bd (3 * b) (lp S l) := by
  intro v hv x hx
  rcases List.mem_or_eq_of_mem_set hv with z | z
  · have := h v z x hx; omega
  · rw [z] at hx
    unfold over at hx
    obtain ⟨p, hp, q, hq, rfl⟩ := mem_zipWith hx
    have a1 := h _ (getD_mem (by rw [hS.1]; exact h1)).1 p hp
    have a2 := h _ (getD_mem (by rw [hS.1]; exact h2)).1 q hq
    omega
theorem pl_bd {n w : Nat} : ∀ {ls : List (Nat × Nat)} {b : Nat} {S : List (List Int)}, Tab n w S → (∀ l ∈ ls, l.1 < n ∧ l.2 < n) → Bd b S → Bd (3 ^ ls.length * b) (places S ls)
  | [], b, S, _, _, h => by simpa [places] using h
  | l :: r, b, S, hS, hl, h => by
    have h1 := hl l List.mem_cons_self
    have := pl_bd (ls := r) (lp_tab hS h1.1 h1.2) (fun l h => hl l (List.mem_cons_of_mem _ h)) (lp_bd hS h1.1 h1.2 h)
    rw [List.length_cons, Nat.pow_succ, Nat.mul_assoc]
    exact this
theorem unit_bd (n : Nat) : Bd 1 (unitM n) := by
  intro v hv x hx
  unfold unitM at hv
  obtain ⟨i, _, rfl⟩ := List.mem_map.mp hv
  obtain ⟨j, _, rfl⟩ := List.mem_map.mp hx
  split <;> decide
theorem chR_bd {b i : Nat} : ∀ {k : Nat} {v : List Int}, (∀ x ∈ v, x.natAbs ≤ b) → ∀ x ∈ chR i k v, x.natAbs ≤ b + 1
  | _, [], _, x, h => by cases h
  | k, y :: r, hv, x, h => by
    rcases List.mem_cons.mp h with e | h
    · have := hv y List.mem_cons_self
      rw [e]
      split <;> omega
    · exact chR_bd (fun x hx => hv x (List.mem_cons_of_mem _ hx)) x h
theorem chM_bd {b : Nat} : ∀ {k : Nat} {S : List (List Int)}, Bd b S → Bd (b + 1) (chM k S)
  | _, [], _, v, h => by cases h
  | k, u :: r, hS, v, h => by
    rcases List.mem_cons.mp h with e | h
    · rw [e]; exact chR_bd (hS u List.mem_cons_self)
    · exact chM_bd (fun v hv => hS v (List.mem_cons_of_mem _ hv)) v h
theorem chg_bd {n : Nat} {ls : List (Nat × Nat)} (hl : ∀ l ∈ ls, l.1 < n ∧ l.2 < n) (h : ls.length ≤ 40) : ∀ v ∈ chg n ls, ∀ x ∈ v, x.natAbs < 2 ^ 64 := by
  intro v hv x hx
  have := chM_bd (pl_bd (unit_tab n) hl (unit_bd n)) v hv x hx
  have h3 : 3 ^ ls.length ≤ 3 ^ 40 := Nat.pow_le_pow_right (by decide) h
  have h4 : 3 ^ 40 + 1 < 2 ^ 64 := by decide
  omega
theorem chg_tab {n : Nat} {ls : List (Nat × Nat)} (hl : ∀ l ∈ ls, l.1 < n ∧ l.2 < n) : Tab n n (chg n ls) :=
  ⟨by unfold chg; rw [chM_len, (pl_tab (unit_tab n) hl).1], chM_tab (pl_tab (unit_tab n) hl).2⟩
theorem dot_over : ∀ a b c : List Int, a.length = b.length → dot (over a b) c = 2 * dot b c - dot a c
  | [], [], c, _ => by simp [over, dot]
  | _ :: _, _ :: _, [], _ => by simp [over, dot]
  | x :: a, y :: b, z :: c, h => by
    have ih := dot_over a b c (by simpa using h)
    unfold over dot at ih ⊢
    simp only [List.zipWith_cons_cons, List.sum_cons]
    rw [ih, Int.sub_mul, Int.mul_assoc]
    omega
theorem dot_one (i : Nat) : ∀ (c : List Int) (s : Nat), dot ((List.range' s c.length).map fun j => if i = j then 1 else 0) c = if s ≤ i then c.getD (i - s) 0 else 0
  | [], s => by simp [dot]
  | x :: c, s => by
    have ih := dot_one i c (s + 1)
    unfold dot at ih ⊢
    rw [List.length_cons, List.range'_succ, List.map_cons, List.zipWith_cons_cons, List.sum_cons, ih]
    by_cases h : i = s
    · subst h
      rw [if_neg (by omega : ¬ i + 1 ≤ i)]
      simp
    · by_cases h2 : s ≤ i
      · rw [if_neg h, if_pos (by omega), if_pos h2, show i - s = (i - (s + 1)) + 1 by omega]
        simp
      · rw [if_neg h, if_neg (by omega), if_neg h2]
        simp
theorem dot_unit {n i : Nat} {c : List Int} (h : c.length = n) : dot ((List.range n).map fun j => if i = j then 1 else 0) c = c.getD i 0 := by
  have := dot_one i c 0
  rw [h, if_pos (Nat.zero_le _), Nat.sub_zero, ← List.range_eq_range'] at this
  exact this
theorem dot_chR (i : Nat) : ∀ (v c : List Int) (k : Nat), v.length = c.length → dot (chR i k v) c = dot v c - if k ≤ i then c.getD (i - k) 0 else 0
  | [], [], k, _ => by simp [dot, chR]
  | x :: v, y :: c, k, h => by
    have ih := dot_chR i v c (k + 1) (by simpa using h)
    unfold dot at ih ⊢
    rw [chR, List.zipWith_cons_cons, List.sum_cons, ih, List.zipWith_cons_cons, List.sum_cons]
    by_cases h : k = i
    · subst h
      rw [if_pos rfl, if_neg (by omega), if_pos (Nat.le_refl _), Nat.sub_self, Int.sub_mul]
      simp
      omega
    · by_cases h2 : k ≤ i
      · rw [if_neg h, if_pos (by omega), if_pos h2, show i - k = (i - (k + 1)) + 1 by omega]
        simp
        omega
      · rw [if_neg h, if_neg (by omega), if_neg h2]
        simp
theorem getD_set {α : Type} {S : List α} {a i : Nat} {x d : α} (h : a < S.length) : (S.set a x).getD i d = if i = a then x else S.getD i d := by
  rw [List.getD_eq_getElem?_getD, List.getD_eq_getElem?_getD, List.getElem?_set]
  by_cases e : i = a
  · subst e
    simp [h]
  · simp [e, Ne.symm e]
theorem lp_at {n w : Nat} {S : List (List Int)} {l : Nat × Nat} (hS : Tab n w S) (h1 : l.1 < n) (i : Nat) : (lp S l).getD i [] = if i = l.1 then over (S.getD l.1 []) (S.getD l.2 []) else S.getD i [] := by
  unfold lp
  rw [getD_set (by rw [hS.1]; exact h1)]
theorem over_at {a b : List Int} {k : Nat} (h1 : k < a.length) (h2 : k < b.length) : (over a b).getD k 0 = 2 * b.getD k 0 - a.getD k 0 := by
  unfold over
  simp [List.getD_eq_getElem?_getD, List.getElem?_zipWith, List.getElem?_eq_getElem h1, List.getElem?_eq_getElem h2]
theorem row_len {n w i : Nat} {S : List (List Int)} (hS : Tab n w S) (h : i < n) : (S.getD i []).length = w := hS.2 _ (getD_mem (by rw [hS.1]; exact h)).1
theorem linear {n w k : Nat} (hk : k < w) (col : List Int) : ∀ (ls : List (Nat × Nat)) (T S : List (List Int)), Tab n n T → Tab n w S → (∀ l ∈ ls, l.1 < n ∧ l.2 < n) → (∀ i, i < n → dot (T.getD i []) col = (S.getD i []).getD k 0) → ∀ i, i < n → dot ((places T ls).getD i []) col = ((places S ls).getD i []).getD k 0
  | [], _, _, _, _, _, h => h
  | l :: ls, T, S, hT, hS, hl, h => by
    obtain ⟨h1, h2⟩ := hl l List.mem_cons_self
    refine linear hk col ls (lp T l) (lp S l) (lp_tab hT h1 h2) (lp_tab hS h1 h2) (fun l h => hl l (List.mem_cons_of_mem _ h)) fun i hi => ?_
    rw [lp_at hT h1, lp_at hS h1]
    split
    · rw [dot_over _ _ _ (by rw [row_len hT h1, row_len hT h2]), over_at (by rw [row_len hS h1]; exact hk) (by rw [row_len hS h2]; exact hk), h _ h1, h _ h2]
    · exact h i hi
theorem ext_D {α : Type} {d : α} {a b : List α} (h : a.length = b.length) (e : ∀ k, k < a.length → a.getD k d = b.getD k d) : a = b := by
  refine List.ext_getElem h fun k h1 h2 => ?_
  have := e k h1
  rw [List.getD_eq_getElem?_getD, List.getD_eq_getElem?_getD, List.getElem?_eq_getElem h1, List.getElem?_eq_getElem h2] at this
  exact this
theorem zw_at {α β γ : Type} {f : α → β → γ} {a : List α} {b : List β} {k : Nat} {da : α} {db : β} {d : γ} (h1 : k < a.length) (h2 : k < b.length) : (List.zipWith f a b).getD k d = f (a.getD k da) (b.getD k db) := by
  simp [List.getD_eq_getElem?_getD, List.getElem?_zipWith, List.getElem?_eq_getElem h1, List.getElem?_eq_getElem h2]
theorem chM_at : ∀ {S : List (List Int)} {k i : Nat}, i < S.length → (chM k S).getD i [] = chR (k + i) 0 (S.getD i [])
  | [], _, _, h => by simp at h
  | v :: S, k, 0, _ => rfl
  | v :: S, k, i + 1, h => by
    have ih := chM_at (S := S) (k := k + 1) (i := i) (by simpa using h)
    rw [show k + (i + 1) = k + 1 + i by omega]
    exact ih
theorem colJ_at {S : List (List Int)} {i k : Nat} (h : i < S.length) : (colJ S k).getD i 0 = (S.getD i []).getD k 0 := by
  unfold colJ
  simp [List.getD_eq_getElem?_getD, List.getElem?_map, List.getElem?_eq_getElem h]
theorem unit_at {n i : Nat} (h : i < n) : (unitM n).getD i [] = (List.range n).map fun j => if i = j then 1 else 0 := by
  unfold unitM
  simp [List.getD_eq_getElem?_getD, List.getElem?_map, h]
theorem chg_dot {n w i k : Nat} {S : List (List Int)} {ls : List (Nat × Nat)} (hS : Tab n w S) (hl : ∀ l ∈ ls, l.1 < n ∧ l.2 < n) (hi : i < n) (hk : k < w) : dot ((chg n ls).getD i []) (colJ S k) = ((places S ls).getD i []).getD k 0 - (S.getD i []).getD k 0 := by
  have hT := pl_tab (unit_tab n) hl
  unfold chg
  rw [chM_at (by rw [hT.1]; exact hi), dot_chR _ _ _ _ (by rw [row_len hT hi, colJ_len, hS.1]), if_pos (Nat.zero_le _), Nat.zero_add, Nat.sub_zero, colJ_at (by rw [hS.1]; exact hi)]
  rw [linear hk (colJ S k) ls (unitM n) S (unit_tab n) hS hl (fun i hi => by rw [unit_at hi, dot_unit (by rw [colJ_len, hS.1]), colJ_at (by rw [hS.1]; exact hi)]) i hi]
theorem map_at {k w : Nat} {f : Nat → Int} (h : k < w) : ((List.range w).map f).getD k 0 = f k := by
  simp [List.getD_eq_getElem?_getD, h]
theorem en_run {n w k : Nat} (hk : k < w) : ∀ (ls : List (Nat × Nat)) (S : List (List Int)), Tab n w S → (∀ l ∈ ls, l.1 < n ∧ l.2 < n) → en (places S ls) k = crun (en S k) ls
  | [], _, _, _ => rfl
  | l :: ls, S, hS, hl => by
    obtain ⟨h1, h2⟩ := hl l List.mem_cons_self
    have ih := en_run hk ls (lp S l) (lp_tab hS h1 h2) fun l h => hl l (List.mem_cons_of_mem _ h)
    have e : en (lp S l) k = cst (en S k) l := by
      funext i
      unfold en cst
      rw [lp_at hS h1]
      split
      · rw [over_at (by rw [row_len hS h1]; exact hk) (by rw [row_len hS h2]; exact hk)]
      · rfl
    rw [e] at ih
    exact ih
/-! ### leaps that go steadily: the table's word, and that of all places -/
theorem crun_add (x y : Nat → Int) (ls : List (Nat × Nat)) : crun (fun i => x i + y i) ls = fun i => crun x ls i + crun y ls i := by
  induction ls generalizing x y with
  | nil => rfl
  | cons l ls ih =>
    show crun (cst (fun i => x i + y i) l) ls = fun i => crun (cst x l) ls i + crun (cst y l) ls i
    rw [← ih]
    congr 1
    funext i
    unfold cst
    dsimp only
    split <;> omega
theorem crun_mul (c : Int) (x : Nat → Int) (ls : List (Nat × Nat)) : crun (fun i => c * x i) ls = fun i => c * crun x ls i := by
  induction ls generalizing x with
  | nil => rfl
  | cons l ls ih =>
    show crun (cst (fun i => c * x i) l) ls = fun i => c * crun (cst x l) ls i
    rw [← ih]
    congr 1
    funext i
    unfold cst
    dsimp only
    split
    · rw [Int.mul_sub, Int.mul_left_comm]
    · rfl
/-- how far it is from steady -/
def dl (ls : List (Nat × Nat)) (x : Nat → Int) (i : Nat) : Int := crun (crun x ls) ls i - 2 * crun x ls i + x i
theorem steady_dl {ls : List (Nat × Nat)} : SteadyX ls ↔ ∀ x i, dl ls x i = 0 := by
  unfold SteadyX dl
  constructor
  · intro h x i
    have := h x i
    omega
  · intro h x i
    have := h x i
    omega
theorem dl_add (ls : List (Nat × Nat)) (x y : Nat → Int) (i : Nat) : dl ls (fun i => x i + y i) i = dl ls x i + dl ls y i := by
  unfold dl
  rw [crun_add, crun_add]
  dsimp only
  omega
theorem dl_mul (ls : List (Nat × Nat)) (c : Int) (x : Nat → Int) (i : Nat) : dl ls (fun i => c * x i) i = c * dl ls x i := by
  unfold dl
  rw [crun_mul, crun_mul]
  dsimp only
  rw [Int.mul_add, Int.mul_sub, Int.mul_left_comm c 2]
def ux (k i : Nat) : Int := if i = k then 1 else 0
def comb (x : Nat → Int) : Nat → Nat → Int
  | 0, _ => 0
  | n + 1, i => comb x n i + x n * ux n i
theorem comb_at (x : Nat → Int) : ∀ (n i : Nat), comb x n i = if i < n then x i else 0
  | 0, i => by simp [comb]
  | n + 1, i => by
    show comb x n i + x n * ux n i = _
    rw [comb_at x n i]
    unfold ux
    by_cases h : i = n
    · subst h
      simp
    · by_cases h2 : i < n
      · rw [if_pos h2, if_neg h, if_pos (by omega)]; simp
      · rw [if_neg h2, if_neg h, if_neg (by omega)]; simp
theorem dl_zero (ls : List (Nat × Nat)) (i : Nat) : dl ls (fun _ => 0) i = 0 := by
  have := dl_mul ls 0 (fun _ => 0) i
  simpa using this
theorem dl_comb {ls : List (Nat × Nat)} {i : Nat} (x : Nat → Int) : ∀ n : Nat, (∀ k, k < n → dl ls (ux k) i = 0) → dl ls (comb x n) i = 0
  | 0, _ => dl_zero ls i
  | n + 1, h => by
    have e : comb x (n + 1) = fun i => comb x n i + (fun i => x n * ux n i) i := rfl
    rw [e, dl_add, dl_comb x n fun k hk => h k (by omega), dl_mul, h n (by omega)]
    simp
theorem crun_out {n : Nat} {ls : List (Nat × Nat)} (hl : ∀ l ∈ ls, l.1 < n ∧ l.2 < n) : ∀ {x : Nat → Int} {i : Nat}, n ≤ i → crun x ls i = x i := by
  induction ls with
  | nil => intro x i _; rfl
  | cons l ls ih =>
    intro x i hi
    show crun (cst x l) ls i = x i
    rw [ih (fun l h => hl l (List.mem_cons_of_mem _ h)) hi]
    unfold cst
    have := (hl l List.mem_cons_self).1
    rw [if_neg (by omega)]
/-- places beyond the persons move nobody -/
theorem crun_off {n : Nat} {ls : List (Nat × Nat)} (hl : ∀ l ∈ ls, l.1 < n ∧ l.2 < n) : ∀ {d : Nat → Int}, (∀ i, i < n → d i = 0) → crun d ls = d := by
  induction ls with
  | nil => intro d _; rfl
  | cons l ls ih =>
    intro d hd
    obtain ⟨h1, h2⟩ := hl l List.mem_cons_self
    have e : cst d l = d := by
      funext i
      unfold cst
      split
      · rename_i h
        rw [h, hd _ h1, hd _ h2]
        rfl
      · rfl
    show crun (cst d l) ls = d
    rw [e]
    exact ih (fun l h => hl l (List.mem_cons_of_mem _ h)) hd
theorem dl_units {n : Nat} {ls : List (Nat × Nat)} (hl : ∀ l ∈ ls, l.1 < n ∧ l.2 < n) : SteadyX ls ↔ ∀ i, i < n → ∀ k, k < n → dl ls (ux k) i = 0 := by
  rw [steady_dl]
  constructor
  · intro h i _ k _
    exact h _ _
  · intro h x i
    by_cases hi : i < n
    · have e : x = fun i => comb x n i + (fun i => if i < n then 0 else x i) i := by
        funext i
        show x i = comb x n i + if i < n then 0 else x i
        rw [comb_at]
        split <;> omega
      rw [e, dl_add, dl_comb x n (h i hi)]
      unfold dl
      rw [crun_off hl (fun i hi => if_pos hi), crun_off hl (fun i hi => if_pos hi)]
      dsimp only
      rw [if_pos hi]
      rfl
    · unfold dl
      rw [crun_out hl (by omega), crun_out hl (by omega)]
      omega
theorem unit_en {n k : Nat} (hk : k < n) : en (unitM n) k = fun i => if i < n then ux k i else 0 := by
  funext i
  unfold en ux
  by_cases hi : i < n
  · rw [unit_at hi, map_at hk, if_pos hi]
  · rw [if_neg hi]
    have : (unitM n).getD i [] = [] := by
      rw [List.getD_eq_getElem?_getD, List.getElem?_eq_none (by rw [(unit_tab n).1]; omega)]
      rfl
    rw [this]
    rfl
theorem unit_en' {n k : Nat} (hk : k < n) : en (unitM n) k = ux k := by
  rw [unit_en hk]
  funext i
  split
  · rfl
  · unfold ux
    rw [if_neg (by omega)]
theorem getD_none' {S : List (List Int)} {i : Nat} (h : S.length ≤ i) : S.getD i [] = [] := by
  rw [List.getD_eq_getElem?_getD, List.getElem?_eq_none h]
  rfl
theorem chR_at (i : Nat) : ∀ (v : List Int) (m k : Nat), k < v.length → (chR i m v).getD k 0 = v.getD k 0 - if m + k = i then 1 else 0
  | [], _, _, h => by simp at h
  | x :: v, m, 0, _ => rfl
  | x :: v, m, k + 1, h => by
    have ih := chR_at i v (m + 1) k (by simpa using h)
    show (chR i (m + 1) v).getD k 0 = v.getD k 0 - _
    rw [ih, show m + 1 + k = m + (k + 1) by omega]
theorem chg_en {n k : Nat} {ls : List (Nat × Nat)} (hl : ∀ l ∈ ls, l.1 < n ∧ l.2 < n) (hk : k < n) : en (chg n ls) k = fun i => crun (ux k) ls i + (-1) * ux k i := by
  funext i
  have hT := pl_tab (unit_tab n) hl
  by_cases hi : i < n
  · have e1 : en (places (unitM n) ls) k i = crun (ux k) ls i := by rw [en_run hk ls _ (unit_tab n) hl, unit_en' hk]
    unfold en at e1 ⊢
    unfold chg
    rw [chM_at (by rw [hT.1]; exact hi), Nat.zero_add, chR_at _ _ _ _ (by rw [row_len hT hi]; exact hk), e1, Nat.zero_add]
    unfold ux
    by_cases h : i = k
    · rw [if_pos h, if_pos h.symm]; omega
    · rw [if_neg h, if_neg (Ne.symm h)]; omega
  · unfold en
    rw [getD_none' (by rw [(chg_tab hl).1]; omega), crun_out hl (by omega)]
    unfold ux
    rw [if_neg (by omega)]
    rfl
theorem prod_at {n i k : Nat} {A B : List (List Int)} (hA : A.length = n) (hi : i < n) (hk : k < n) : ((prodM n A B).getD i []).getD k 0 = dot (A.getD i []) (colJ B k) := by
  unfold prodM colsM
  simp [List.getD_eq_getElem?_getD, List.getElem?_map, List.getElem?_eq_getElem (show i < A.length by omega), hk]
theorem prod_dl {n i k : Nat} {ls : List (Nat × Nat)} (hl : ∀ l ∈ ls, l.1 < n ∧ l.2 < n) (hi : i < n) (hk : k < n) : ((prodM n (chg n ls) (chg n ls)).getD i []).getD k 0 = dl ls (ux k) i := by
  have hC := chg_tab hl
  rw [prod_at hC.1 hi hk, chg_dot hC hl hi hk]
  show en (places (chg n ls) ls) k i - en (chg n ls) k i = _
  rw [en_run hk ls _ hC hl, chg_en hl hk, crun_add, crun_mul]
  unfold dl
  dsimp only
  omega
theorem still_x {n : Nat} {ls : List (Nat × Nat)} (hl : ∀ l ∈ ls, l.1 < n ∧ l.2 < n) : (∀ v ∈ prodM n (chg n ls) (chg n ls), ∀ x ∈ v, x = 0) ↔ SteadyX ls := by
  have hC := chg_tab hl
  have hP : Tab n n (prodM n (chg n ls) (chg n ls)) := by
    refine ⟨by unfold prodM; rw [List.length_map, hC.1], fun v hv => ?_⟩
    unfold prodM at hv
    obtain ⟨r, _, rfl⟩ := List.mem_map.mp hv
    rw [List.length_map, colsM_len]
  rw [dl_units hl]
  constructor
  · intro h i hi k hk
    rw [← prod_dl hl hi hk]
    have hm := (getD_mem (S := prodM n (chg n ls) (chg n ls)) (k := i) (by rw [hP.1]; exact hi)).1
    have hkl : k < ((prodM n (chg n ls) (chg n ls)).getD i []).length := by rw [row_len hP hi]; exact hk
    have gm : ∀ (V : List Int), k < V.length → V.getD k 0 ∈ V := fun V hV => by
      rw [List.getD_eq_getElem?_getD, List.getElem?_eq_getElem hV]
      exact List.getElem_mem hV
    exact h _ hm _ (gm _ hkl)
  · intro h v hv x hx
    obtain ⟨i, hi, rfl⟩ := List.getElem_of_mem hv
    obtain ⟨k, hk, rfl⟩ := List.getElem_of_mem hx
    have hi' : i < n := by rw [hP.1] at hi; exact hi
    have hkl := hP.2 _ hv
    have := prod_dl hl hi' (by rw [← hkl]; exact hk)
    rw [h i hi' k (by rw [← hkl]; exact hk)] at this
    simp only [List.getD_eq_getElem?_getD, List.getElem?_eq_getElem hi, Option.getD_some, List.getElem?_eq_getElem hk] at this
    exact this
/-! the truth of it, as it is told -/
noncomputable def stX (xs : List D) : Bool := @decide (∃ ls : List (Nat × Nat), xs = ls.map L ∧ SteadyX ls) (Classical.propDecidable _)
theorem L_inj : ∀ {a b : List (Nat × Nat)}, a.map L = b.map L → a = b
  | [], [], _ => rfl
  | [], _ :: _, h => by cases h
  | _ :: _, [], h => by cases h
  | x :: a, y :: b, h => by
    rw [List.map_cons, List.map_cons] at h
    injection h with h1 h2
    have e := L_inj h2
    obtain ⟨x1, x2⟩ := x
    obtain ⟨y1, y2⟩ := y
    unfold L ni at h1
    injection h1 with h1
    injection h1 with h1 h3
    injection h3 with h3 _
    injection h1 with h1
    injection h3 with h3
    have h1 : (x1 : Int) = (y1 : Int) := h1
    have h3 : (x2 : Int) = (y2 : Int) := h3
    have e1 : x1 = y1 := by omega
    have e2 : x2 = y2 := by omega
    rw [e, e1, e2]
theorem stX_iff {ls : List (Nat × Nat)} : stX (ls.map L) = true ↔ SteadyX ls := by
  constructor
  · intro h
    obtain ⟨l2, e, h⟩ := @of_decide_eq_true _ (Classical.propDecidable _) h
    rw [L_inj e]
    exact h
  · intro h
    exact @decide_eq_true _ (Classical.propDecidable _) ⟨ls, rfl, h⟩
theorem stX_of {ls : List (Nat × Nat)} {b : Bool} (h : b = true ↔ SteadyX ls) : b = stX (ls.map L) := by
  cases hb : stX (ls.map L) with
  | true => exact h.mpr (stX_iff.mp hb)
  | false =>
    cases b with
    | false => rfl
    | true => rw [stX_iff.mpr (h.mp rfl)] at hb; cases hb
theorem any_ints (v : List Int) (Q : DV → Prop) : wO (bi .any [.list (v.map .int)]) Q = Q (.d (.bool (v.any fun x => x != 0))) := by
  have e : trus? (v.map PyData.int) = some (v.map fun x => x != 0) := by
    induction v with
    | nil => rfl
    | cons x v ih =>
      show (match truF (.int x), trus? (v.map PyData.int) with | some b, some bs => some (b :: bs) | _, _ => none) = _
      rw [ih]
      rfl
  show wO ((trus? (v.map PyData.int)).map fun bs => DV.d (.bool (bs.any id))) Q = _
  rw [e]
  show Q (.d (.bool ((v.map fun x => x != 0).any id))) = _
  rw [List.any_map]
  rfl
def anyJ : D → Option D
  | .list xs => match ints? xs with
    | some v => some (.bool (v.any fun x => x != 0))
    | none => none
  | _ => none
theorem anyJ_J (v : List Int) : anyJ (J v) = some (.bool (v.any fun x => x != 0)) := by
  unfold anyJ J
  dsimp only
  rw [ints_J]
theorem u_steadily : f_go_steadily.run = evF g_go_steadily [f_change_of, f_product] false 4 b_go_steadily := rfl
theorem steadily_any {n : Nat} (hn : n ≤ 100) (h1 : 1 ≤ n) {ls : List (Nat × Nat)} (hl : ∀ l ∈ ls, l.1 < n ∧ l.2 < n) (h40 : ls.length ≤ 40) (Q : DV → List D → Prop) (X) (q : Q (.d (.bool (stX (ls.map L)))) []) : wF (f_go_steadily.run [] [.int n, .tuple (ls.map L)]) Q X := by
  rw [u_steadily, rF, show env0 false 4 [] [.int n, .tuple (ls.map L)] = [.val (.int n), .val (.tuple (ls.map L)), .un, .un] from rfl]
  simp only [b_go_steadily, rS, rE, rEs, rB, rV, rZ, rC, rI, rU, rT, rP, rQ, if_true]
  refine ⟨rfl, rfl, change_ok hn hl _ _ ?_⟩
  simp only [rS, rE, rEs, rB, rV, rZ, rC, rI, rU, rT, rP, rQ, if_true]
  refine ⟨rfl, rfl, product_ok hn h1 (chg_tab hl) (chg_tab hl) (chg_bd hl h40) _ _ ?_⟩
  simp only [rS, rE, rEs, rB, rV, rZ, rC, rI, rU, rT, rP, rQ, if_true]
  have hx := still_x hl
  have hlen : (prodM n (chg n ls) (chg n ls)).length ≤ 100 := by
    unfold prodM
    rw [List.length_map, (chg_tab hl).1]; exact hn
  generalize prodM n (chg n ls) (chg n ls) = P at hx hlen
  refine comp_pure anyJ rfl (fun x hx => ?_) fun e6 he => ?_
  · obtain ⟨v, hv, rfl⟩ := List.mem_map.mp hx
    rw [anyJ_J]
    simp only [J, rS, rE, rEs, rB, rV, rZ, rC, rI, rU, rT, rP, rQ, if_true, wipeE, any_ints]
  · rw [fm_map (f := J) (g := anyJ) (h := fun v => .bool (v.any fun x => x != 0)) fun v _ => anyJ_J v]
    refine ⟨by rw [List.length_map]; exact Nat.le_trans hlen (by decide), ?_⟩
    rw [show P.map (fun v => PyData.bool (v.any fun x => x != 0)) = (P.map fun v => v.any fun x => x != 0).map PyData.bool by rw [List.map_map]; rfl]
    simp only [rS, rE, rEs, rB, rV, rZ, rC, rI, rU, rT, rP, rQ, if_true, any_bools]
    have e : (!(P.map fun v => v.any fun x => x != 0).any id) = stX (ls.map L) := by
      refine stX_of ?_
      rw [← hx, List.any_map, Bool.not_eq_true', List.any_eq_false]
      constructor
      · intro h v hv x hx2
        have := h v hv
        simp only [Function.comp_apply, id, List.any_eq_true, not_exists, not_and, Bool.not_eq_true] at this
        have := this x hx2
        simpa using this
      · intro h v hv
        simp only [Function.comp_apply, id, List.any_eq_true, not_exists, not_and, Bool.not_eq_true]
        intro x hx2
        rw [h v hv x hx2]
        rfl
    rw [e]
    exact q
theorem crun_rep {p o q : Nat} (po : p ≠ o) (pq : p ≠ q) : ∀ (m : Nat) (x : Nat → Int), crun x (rep m [(p, o), (p, q)]) = fun i => if i = p then x p + m * (2 * (x q - x o)) else x i
  | 0, x => by
    funext i
    show x i = _
    split
    · rename_i h; subst h; simp
    · rfl
  | m + 1, x => by
    have e : rep (m + 1) [(p, o), (p, q)] = (p, o) :: (p, q) :: rep m [(p, o), (p, q)] := by
      unfold rep
      rw [List.replicate_succ]
      rfl
    rw [e]
    show crun (cst (cst x (p, o)) (p, q)) (rep m [(p, o), (p, q)]) = _
    rw [crun_rep po pq m]
    funext i
    by_cases h : i = p
    · subst h
      simp [cst, Ne.symm po, Ne.symm pq]
      rw [Int.add_mul]
      omega
    · simp [cst, h]
theorem steady_swap {p o : Nat} (po : p ≠ o) : SteadyX [(p, o), (o, p)] := fun x i => by
  simp only [crun, List.foldl_cons, List.foldl_nil, cst]
  by_cases h1 : i = p
  · subst h1
    simp [po, Ne.symm po]
    omega
  · by_cases h2 : i = o
    · subst h2
      simp [po, Ne.symm po]
      omega
    · simp [h1, h2]
theorem steady_rep {p o q m : Nat} (po : p ≠ o) (pq : p ≠ q) : SteadyX (rep m [(p, o), (p, q)]) := fun x i => by
  rw [crun_rep po pq m, crun_rep po pq m]
  by_cases h1 : i = p
  · subst h1
    simp [Ne.symm po, Ne.symm pq]
    omega
  · simp [h1]
theorem u_run : f__law_run.run = evF g__law_run [f__law_take, f__law_leap, f__law_great] true 8 b__law_run := rfl
def t_run : Sxs := drp 3 b__law_run
def t_run2 : Sxs := drp 5 b__law_run
theorem run_tail2 {o : List D} (p : Pile o) {ws : List Int} {n : Nat} {ps : List Nat} (h2 : 2 ≤ n) (hn : n ≤ 100) {kind tt : Int} {a b : Nat} (ha : LeapOk n ps (a, b)) (ht1 : 1 ≤ tt) (ht2 : tt < 100000000000) (Q : DV → List D → Prop) (X) (q : ∀ r o', RunOk n ps r → Pile o' → Q (.d (RD r)) o') :
    wS (evSs g__law_run [f__law_take, f__law_leap, f__law_great] t_run2 [.own true o, .val (.tuple [I ws, .int n, NN ps]), .val (.int kind), .val (.int tt), .un, .val (.int a), .val (.int b), .un]) (endP true Q X) := by
  simp only [t_run2, b__law_run, drp, rS, rE, rEs, rB, rV, rZ, rC, rI, rU]
  obtain ⟨l1, l2', l3', l4'⟩ := ha
  refine ⟨rfl, rfl, take_ok p (by omega) (by omega) _ _ fun t o1 t1 t2 p1 => ?_⟩
  obtain ⟨c, ev, c1, c2⟩ := other_ok h2 l1 t1 t2
  have ev' : Int.fmod ((a : Int) + 1 + t) (n : Int) = (c : Int) := ev
  simp only [rS, rE, rEs, rB, rV, rZ, rC, rI, rU, ev']
  refine ⟨by omega, l2, l2, l2, rfl, rfl, take_ok p1 (by decide) (by decide) _ _ fun k o2 k1 k2 p2 => ?_⟩
  obtain ⟨m, em, m1, m2⟩ : ∃ m : Nat, 1 + k * (if decide (kind = 3) = true then 1 else 0) = (m : Int) ∧ 1 ≤ m ∧ m ≤ 5 := by
    split
    · exact ⟨(1 + k * 1).toNat, by omega, by omega, by omega⟩
    · exact ⟨1, by omega, by omega, by omega⟩
  simp only [rS, rE, rEs, rB, rV, rZ, rC, rI, rU, em]
  refine ⟨.inl (by omega), ?_⟩
  rw [mul_rep rfl m1 (by omega) (by show 2 ≤ 1000; decide) (by simp)]
  simp only [rZ]
  have e : [PyData.tuple [.int (a : Int), .int (b : Int)], PyData.tuple [.int (a : Int), .int (c : Int)]] = [(a, b), (a, c)].map L := rfl
  rw [e, rep_map]
  refine ⟨l2, q (rep m [(a, b), (a, c)], tt) o2 ⟨?_, ?_, fun l hl => ?_, ht1, ht2, .inr (steady_rep l3' c2)⟩ p2⟩
  · show 1 ≤ (rep m [(a, b), (a, c)]).length
    rw [rep_len]; simp only [List.length_cons, List.length_nil]; omega
  · show (rep m [(a, b), (a, c)]).length ≤ 40
    rw [rep_len]; simp only [List.length_cons, List.length_nil]; omega
  · have hl := rep_mem hl
    simp only [List.mem_cons, List.not_mem_nil, or_false] at hl
    rcases hl with rfl | rfl
    · exact ⟨l1, l2', l3', l4'⟩
    · exact ⟨l1, c1, c2, l4'⟩
theorem run_tail {o : List D} (p : Pile o) {ws : List Int} {n : Nat} {ps : List Nat} (h2 : 2 ≤ n) (hn : n ≤ 100) (hps : Posts n ps) {kind tt : Int} {a b : Nat} (ha : LeapOk n ps (a, b)) (ht1 : 1 ≤ tt) (ht2 : tt < 100000000000) (Q : DV → List D → Prop) (X) (q : ∀ r o', RunOk n ps r → Pile o' → Q (.d (RD r)) o') :
    wS (evSs g__law_run [f__law_take, f__law_leap, f__law_great] t_run [.own true o, .val (.tuple [I ws, .int n, NN ps]), .val (.int kind), .val (.int tt), .un, .val (.int a), .val (.int b), .un]) (endP true Q X) := by
  rw [split_at _ _ _ 2 t_run, show drp 2 t_run = t_run2 from rfl]
  simp only [t_run, b__law_run, drp, tk, rS, rE, rEs, rB, rV, rZ, rC, rI, rU]
  have tail := run_tail2 (ws := ws) (kind := kind) p h2 hn ha ht1 ht2 Q X q
  obtain ⟨l1, l2', l3', l4'⟩ := ha
  split
  · refine ⟨rfl, rfl, take_ok p (by decide) (by decide) _ _ fun k o1 k1 k2 p1 => ?_⟩
    simp only [rS, rE, rEs, rB, rV, rZ, rC, rI, rU]
    refine ⟨big_of (by omega) (by omega), rfl, wR.imp (comp_all (fun e => ∃ o x, e = [.own true o, .val (Y ws n ps), .val (.int kind), .val (.int tt), .un, .val (.int a), .val (.int b), x] ∧ Pile o) (fun _ y => ∃ l, y = L l ∧ LeapOk n ps l) _ _ ⟨o1, .un, rfl, p1⟩ fun x hx e he => ?_) (fun ys e h => ?_) fun _ _ _ h => False.elim h⟩
    · obtain ⟨o, x0, rfl, p⟩ := he
      simp only [rS, rE, rEs, rB, rV, rZ, rC, rI, rU, wipeE]
      refine ⟨rfl, rfl, leap_ok p h2 hn hps _ _ fun l o3 hl p3 => ?_⟩
      exact ⟨⟨o3, _, rfl, p3⟩, _, rfl, l, rfl, hl⟩
    · obtain ⟨⟨o, x0, rfl, p⟩, ha⟩ := h
      obtain ⟨ls, rfl, hl, hls⟩ := all2_leaps ha
      rw [rngI_len] at hl
      refine ⟨by rw [List.length_map]; exact Nat.le_trans (show ls.length ≤ 100 by omega) (by decide), l2, rfl, q (ls, 1) o ⟨by show 1 ≤ ls.length; omega, by show ls.length ≤ 40; omega, hls, Int.le_refl _, (by decide : (1 : Int) < 100000000000), .inl rfl⟩ p⟩
  · by_cases h1 : kind = 1
    · simp only [h1, decide_true, if_true, rB, rZ]
      rw [show PyData.int (b : Int) = ni b from rfl, cmp_nmem_nn]
      by_cases hb : b ∈ ps
      · simp only [hb, decide_true, Bool.not_true, Bool.false_eq_true, if_false]
        rw [h1] at tail
        exact tail
      · simp only [hb, decide_false, Bool.not_false, if_true]
        refine ⟨l2, l2, l2, l2, q ([(a, b), (b, a)], tt) o ⟨by show 1 ≤ 2; decide, by show 2 ≤ 40; decide, fun l hl => ?_, ht1, ht2, .inr (steady_swap l3')⟩ p⟩
        simp only [List.mem_cons, List.not_mem_nil, or_false] at hl
        rcases hl with rfl | rfl
        · exact ⟨l1, l2', l3', l4'⟩
        · exact ⟨l2', l1, fun z => l3' z.symm, hb⟩
    · simp only [h1, decide_false, Bool.false_eq_true, if_false, rB, rZ]
      exact tail
theorem run_ok {o : List D} (p : Pile o) {ws : List Int} {n : Nat} {ps : List Nat} (h2 : 2 ≤ n) (hn : n ≤ 100) (hps : Posts n ps) (Q : DV → List D → Prop) (X) (q : ∀ r o', RunOk n ps r → Pile o' → Q (.d (RD r)) o') : wF (f__law_run.run o [Y ws n ps]) Q X := by
  rw [u_run, rF, show env0 true 8 o [Y ws n ps] = [.own true o, .val (.tuple [I ws, .int n, NN ps]), .un, .un, .un, .un, .un, .un] from rfl]
  rw [split_at _ _ _ 3 b__law_run, show drp 3 b__law_run = t_run from rfl]
  simp only [b__law_run, tk, rS, rE, rEs, rB, rV, rZ, rC, rI, rU]
  refine ⟨rfl, rfl, take_ok p (by decide) (by decide) _ _ fun kind o1 k1 k2 p1 => ?_⟩
  simp only [rS, rE, rEs, rB, rV, rZ, rC, rI, rU]
  refine ⟨rfl, rfl, leap_ok (ws := ws) p1 h2 hn hps _ _ fun l o2 hl p2 => ?_⟩
  obtain ⟨a, b⟩ := l
  simp only [L, ni, rS, rE, rEs, rB, rV, rZ, rC, rI, rU]
  refine ⟨rfl, rfl, take_ok p2 (by decide) (by decide) _ _ fun t1 o3 u1 u2 p3 => ?_⟩
  simp only [rS, rE, rEs, rB, rV, rZ, rC, rI, rU]
  refine ⟨rfl, rfl, great_ok p3 _ _ fun g o4 g1 g2 p4 => ?_⟩
  simp only [rS, rE, rEs, rB, rV, rZ, rC, rI, rU]
  refine ⟨l2, ?_⟩
  obtain ⟨e1, e2, e3, e4, rfl, he⟩ := id p4
  cases e4 with
  | false =>
    simp only [rS, rE, rEs, rB, rV, rZ, rC, rI, rU, if_false, Bool.false_eq_true]
    exact run_tail p4 h2 hn hps hl (by omega) (by omega) Q X q
  | true =>
    simp only [rS, rE, rEs, rB, rV, rZ, rC, rI, rU]
    refine ⟨rfl, rfl, take_ok p4 (by decide) (by decide) _ _ fun k o5 k1 k2 p5 => ?_⟩
    simp only [rS, rE, rEs, rB, rV, rZ, rC, rI, rU]
    split
    · simp only [rZ]
      exact run_tail p5 h2 hn hps hl (by omega) (by omega) Q X q
    · simp only [rZ]
      exact run_tail p5 h2 hn hps hl (by omega) (by omega) Q X q
theorem all2_runs {α : Type} {n : Nat} {ps : List Nat} : ∀ {xs : List α} {ys : List D}, All2 (fun _ y => ∃ r, y = RD r ∧ RunOk n ps r) xs ys → ∃ rs : List (List (Nat × Nat) × Int), ys = rs.map RD ∧ rs.length = xs.length ∧ ∀ r ∈ rs, RunOk n ps r
  | _, _, .nil => ⟨[], rfl, rfl, fun v h => nomatch h⟩
  | _, _, .cons ⟨i, e, hi⟩ h => by
    obtain ⟨v, e2, hl, hv⟩ := all2_runs h
    subst e e2
    refine ⟨i :: v, rfl, congrArg (· + 1) hl, fun w hw => ?_⟩
    rcases List.mem_cons.mp hw with z | z
    · rw [z]; exact hi
    · exact hv w z
theorem u_row : f__law_row.run = evF g__law_row [f__law_take, f__law_run] true 4 b__law_row := rfl
theorem row_ok {o : List D} (p : Pile o) {ws : List Int} {n : Nat} {ps : List Nat} (h2 : 2 ≤ n) (hn : n ≤ 100) (hps : Posts n ps) {many : Int} (hm : 0 ≤ many) (hm2 : many ≤ 100) (Q : DV → List D → Prop) (X) (q : ∀ (rs : List (List (Nat × Nat) × Int)) o', (rs.length : Int) ≤ many → (∀ r ∈ rs, RunOk n ps r) → Pile o' → Q (.fr (rs.map RD)) o') : wF (f__law_row.run o [Y ws n ps, .int many]) Q X := by
  rw [u_row, rF, show env0 true 4 o [Y ws n ps, .int many] = [.own true o, .val (Y ws n ps), .val (.int many), .un] from rfl]
  simp only [b__law_row, rS, rE, rEs, rB, rV, rZ, rC, rI, rU]
  refine ⟨rfl, rfl, take_ok p (by omega) (by omega) _ _ fun k o1 k1 k2 p1 => ?_⟩
  simp only [rS, rE, rEs, rB, rV, rZ, rC, rI, rU]
  refine ⟨big_of (by omega) (by omega), rfl, wR.imp (comp_all (fun e => ∃ o x, e = [.own true o, .val (Y ws n ps), .val (.int many), x] ∧ Pile o) (fun _ y => ∃ r, y = RD r ∧ RunOk n ps r) _ _ ⟨o1, .un, rfl, p1⟩ fun x hx e he => ?_) (fun ys e h => ?_) fun _ _ _ h => False.elim h⟩
  · obtain ⟨o, x0, rfl, p⟩ := he
    simp only [rS, rE, rEs, rB, rV, rZ, rC, rI, rU, wipeE]
    refine ⟨rfl, rfl, run_ok p h2 hn hps _ _ fun r o3 hr p3 => ?_⟩
    exact ⟨⟨o3, _, rfl, p3⟩, _, rfl, r, rfl, hr⟩
  · obtain ⟨⟨o, x0, rfl, p⟩, ha⟩ := h
    obtain ⟨rs, rfl, hl, hr⟩ := all2_runs ha
    rw [rngI_len] at hl
    exact ⟨by rw [List.length_map]; exact Nat.le_trans (show rs.length ≤ 100 by omega) (by decide), rfl, q rs o (by omega) hr p⟩
end K06


set_option Elab.async false
set_option linter.all false
set_option maxRecDepth 100000
set_option maxHeartbeats 4000000
namespace K06
open PySem DL
/-! ### the first place at which something is wrong -/
def firstF (f : D → Bool) : Nat → List D → Option Nat
  | _, [] => none
  | k, x :: r => if f x = true then firstF f (k + 1) r else some k
def oddH (f : D → Bool) : D → Option D
  | .tuple [.int i, x] => if f x = true then none else some (.int i)
  | _ => none
theorem odd_first (f : D → Bool) : ∀ (k : Nat) (xs : List D), (firstF f k xs = none ∧ (enumD k xs).filterMap (oddH f) = [] ∧ ∀ x ∈ xs, f x = true) ∨ ∃ (j : Nat) (r : List Int), firstF f k xs = some j ∧ (enumD k xs).filterMap (oddH f) = (((j : Int) :: r).map PyData.int)
  | k, [] => .inl ⟨rfl, rfl, fun x h => nomatch h⟩
  | k, x :: xs => by
    have ih := odd_first f (k + 1) xs
    show (_ ∧ (PyData.tuple [.int (k : Int), x] :: enumD (k + 1) xs).filterMap (oddH f) = [] ∧ _) ∨ ∃ (j : Nat) (r : List Int), _ ∧ (PyData.tuple [.int (k : Int), x] :: enumD (k + 1) xs).filterMap (oddH f) = _
    rw [List.filterMap_cons]
    by_cases h : f x = true
    · have e1 : firstF f k (x :: xs) = firstF f (k + 1) xs := if_pos h
      have e2 : oddH f (.tuple [.int (k : Int), x]) = none := if_pos h
      rw [e1, e2]
      rcases ih with ⟨a, b, c⟩ | ih
      · refine .inl ⟨a, b, fun y hy => ?_⟩
        rcases List.mem_cons.mp hy with z | z
        · rw [z]; exact h
        · exact c y z
      · exact .inr ih
    · have e1 : firstF f k (x :: xs) = some k := if_neg h
      have e2 : oddH f (.tuple [.int (k : Int), x]) = some (.int (k : Int)) := if_neg h
      rw [e1, e2]
      right
      rcases ih with ⟨_, b, _⟩ | ⟨j, r, _, b⟩
      · exact ⟨k, [], rfl, by rw [b]; rfl⟩
      · exact ⟨k, (j : Int) :: r, rfl, by rw [b]; rfl⟩
theorem odd_len (f : D → Bool) (k : Nat) (xs : List D) : ((enumD k xs).filterMap (oddH f)).length ≤ xs.length := by
  have := fm_len (oddH f) (enumD k xs)
  rw [enum_len] at this
  exact this
theorem enum_pn {xs : List D} {z : D} (h : ∀ x ∈ xs, Pn x) (hz : z ∈ enumD 0 xs) : ∃ (i : Nat) (x : D), x ∈ xs ∧ Pn x ∧ z = .tuple [.int i, x] := by
  obtain ⟨i, x, hx, e⟩ := mem_enum hz
  exact ⟨i, x, hx, h x hx, e⟩
theorem ints_tru (i : Int) (r : List Int) : tru (.list (((i :: r)).map PyData.int)) = some true := rfl
/-! ### a run, looked at -/
def timesB : D → Bool
  | .int t => decide (1 ≤ t)
  | _ => false
def overOne : D → Bool
  | .int t => decide (1 < t)
  | _ => false
noncomputable def runLook (n : Nat) (ps : List Nat) (i : Int) : D → D
  | .tuple [.tuple xs, t] => if 1 ≤ xs.length ∧ xs.length ≤ 40 then (match firstF (leapB n ps) 0 xs with
    | some k => .tuple [.str "leap", .int i, .int (k : Int)]
    | none => if timesB t = true then (if (overOne t && !stX xs) = true then .tuple [.str "steady", .int i] else .none) else .tuple [.str "times", .int i]) else .tuple [.str "run", .int i]
  | _ => .tuple [.str "run", .int i]
theorem leapB_L {n : Nat} {ps : List Nat} {d : D} (h : leapB n ps d = true) : ∃ l, d = L l ∧ LeapOk n ps l := by
  unfold leapB at h
  split at h
  · rename_i a b
    unfold leapI at h
    simp only [Bool.and_eq_true, Bool.not_eq_true', decide_eq_true_eq, decide_eq_false_iff_not] at h
    obtain ⟨⟨h1, ⟨h2, h3⟩, h4, h5⟩, h6⟩ := h
    refine ⟨(a.toNat, b.toNat), ?_, by show a.toNat < n; omega, by show b.toNat < n; omega, by show a.toNat ≠ b.toNat; omega, fun hm => h6 ?_⟩
    · unfold L ni
      dsimp only
      rw [Int.toNat_of_nonneg h2, Int.toNat_of_nonneg h4]
    · exact List.mem_map.mpr ⟨a.toNat, hm, Int.toNat_of_nonneg h2⟩
  · cases h
theorem leapB_of {n : Nat} {ps : List Nat} {l : Nat × Nat} (h : LeapOk n ps l) : leapB n ps (L l) = true := by
  obtain ⟨h1, h2, h3, h4⟩ := h
  show leapI n ps (l.1 : Int) (l.2 : Int) = true
  unfold leapI
  simp only [Bool.and_eq_true, Bool.not_eq_true', decide_eq_true_eq, decide_eq_false_iff_not]
  refine ⟨⟨by omega, ⟨by omega, by omega⟩, by omega, by omega⟩, fun hm => h4 ?_⟩
  obtain ⟨k, hk, e⟩ := List.mem_map.mp hm
  have : k = l.1 := by omega
  rw [← this]
  exact hk
theorem leaps_L {n : Nat} {ps : List Nat} : ∀ {xs : List D}, (∀ x ∈ xs, leapB n ps x = true) → ∃ ls : List (Nat × Nat), xs = ls.map L ∧ ∀ l ∈ ls, LeapOk n ps l
  | [], _ => ⟨[], rfl, fun l h => nomatch h⟩
  | x :: xs, h => by
    obtain ⟨l, e, hl⟩ := leapB_L (h x List.mem_cons_self)
    obtain ⟨ls, e2, h2⟩ := leaps_L fun y hy => h y (List.mem_cons_of_mem _ hy)
    refine ⟨l :: ls, by rw [e, e2]; rfl, fun m hm => ?_⟩
    rcases List.mem_cons.mp hm with z | z
    · rw [z]; exact hl
    · exact h2 m z
theorem u_run_in : f_run_in.run = evF g_run_in [f_is_leap, f_is_whole, f_go_steadily] false 9 b_run_in := rfl
theorem run_in_any {n : Nat} {ps : List Nat} (h2 : 2 ≤ n) (hn : n ≤ 100) (i : Int) {d : D} (hd : Pn d) (Q : DV → List D → Prop) (X) (q : Q (.d (runLook n ps i d)) []) : wF (f_run_in.run [] [.int n, NN ps, .int i, d]) Q X := by
  rw [u_run_in, rF, show env0 false 9 [] [.int n, NN ps, .int i, d] = [.val (.int n), .val (NN ps), .val (.int i), .val d, .un, .un, .un, .un, .un] from rfl]
  simp only [b_run_in, rS, rE, rEs, rB, rV, rZ, rC, rI, rU, rT, rP, rQ, if_true, isi_pn _ hd]
  cases d with
  | tuple ys =>
    match ys, hd, q with
    | [a, t], hd, q =>
      have ha : Pn a := pn_tup hd a List.mem_cons_self
      have ht : Pn t := pn_tup hd t (List.mem_cons_of_mem _ List.mem_cons_self)
      simp only [tyIs, rS, rE, rEs, rB, rV, rZ, rC, rI, rU, rT, rP, rQ, if_true, show decide ((([a, t].length : Nat) : Int) = 2) = true from rfl, Bool.not_true, Bool.false_eq_true, if_false, isi_pn _ ha]
      cases a with
      | tuple xs =>
        simp only [tyIs, rS, rE, rEs, rB, rV, rZ, rC, rI, rU, rT, rP, rQ, if_true, Bool.not_true, Bool.false_eq_true, if_false, g_run_in, List.getElem?_cons_zero, wO_some]
        by_cases hl : 1 ≤ xs.length ∧ xs.length ≤ 40
        · have e1 : (1 : Int) ≤ (xs.length : Int) := by omega
          have e2 : (xs.length : Int) ≤ 40 := by omega
          simp only [e1, e2, decide_true, rS, rE, rEs, rB, rV, rZ, rC, rI, rU, rT, rP, rQ, if_true, Bool.not_true, Bool.false_eq_true, if_false]
          refine comp_pure (oddH (leapB n ps)) rfl (fun z hz => ?_) fun e6 he => ?_
          · obtain ⟨j, x, hx, hp, rfl⟩ := enum_pn (pn_tup ha) hz
            simp only [rS, rE, rEs, rB, rV, rZ, rC, rI, rU, rT, rP, rQ, if_true, wipeE]
            refine ⟨rfl, rfl, is_leap_any hp _ _ ?_⟩
            unfold oddH
            cases hb : leapB n ps x with
            | true => simp only [rS, rE, rEs, rB, rV, rZ, rC, rI, rU, rT, rP, rQ, if_true, hb, Bool.not_true, Bool.false_eq_true, if_false]
            | false => simp only [rS, rE, rEs, rB, rV, rZ, rC, rI, rU, rT, rP, rQ, if_true, hb, Bool.not_false, Bool.false_eq_true, if_false]
          · refine ⟨Nat.le_trans (odd_len _ 0 xs) (Nat.le_trans hl.2 (by decide)), ?_⟩
            have ql : runLook n ps i (.tuple [.tuple xs, t]) = (match firstF (leapB n ps) 0 xs with
              | some k => .tuple [.str "leap", .int i, .int (k : Int)]
              | none => if timesB t = true then (if (overOne t && !stX xs) = true then .tuple [.str "steady", .int i] else .none) else .tuple [.str "times", .int i]) := by
              show (if 1 ≤ xs.length ∧ xs.length ≤ 40 then _ else _) = _
              rw [if_pos hl]
            rw [ql] at q
            rcases odd_first (leapB n ps) 0 xs with ⟨o1, o2, o3⟩ | ⟨j, r, o1, o2⟩
            · rw [o1] at q
              rw [o2]
              obtain ⟨ls, rfl, hls⟩ := leaps_L o3
              have hb : ∀ l ∈ ls, l.1 < n ∧ l.2 < n := fun l hl => ⟨(hls l hl).1, (hls l hl).2.1⟩
              simp only [he, rS, rE, rEs, rB, rV, rZ, rC, rI, rU, rT, rP, rQ, if_true, tru, List.isEmpty_nil, Bool.not_true, wO_some, Bool.false_eq_true, if_false]
              refine ⟨rfl, rfl, whole_any ht _ _ ?_⟩
              cases t with
              | int t =>
                simp only [isI, rS, rE, rEs, rB, rV, rZ, rC, rI, rU, rT, rP, rQ, if_true, Bool.not_true, Bool.false_eq_true, if_false]
                by_cases t1 : t < 1
                · have t1' : ¬ 1 ≤ t := by omega
                  simp only [t1, decide_true, if_true, rS, rE, rEs, rB, rV, rZ, rC, rI, rU, rT, rP, rQ, if_true]
                  simp only [timesB, t1', decide_false, Bool.false_eq_true, if_false] at q
                  exact ⟨l2, q⟩
                · have t1' : 1 ≤ t := by omega
                  simp only [t1, decide_false, Bool.false_eq_true, if_false, rS, rE, rEs, rB, rV, rZ, rC, rI, rU, rT, rP, rQ, if_true]
                  simp only [timesB, t1', decide_true, if_true, overOne] at q
                  by_cases t2 : t > 1
                  · have t2' : 1 < t := t2
                    simp only [t2, decide_true, if_true, rS, rE, rEs, rB, rV, rZ, rC, rI, rU, rT, rP, rQ, if_true]
                    simp only [t2', decide_true, Bool.true_and] at q
                    refine ⟨rfl, rfl, steadily_any hn (by omega) hb (by rw [List.length_map] at hl; exact hl.2) _ _ ?_⟩
                    cases hs : stX (ls.map L) with
                    | true =>
                      rw [hs] at q
                      simp only [rS, rE, rEs, rB, rV, rZ, rC, rI, rU, rT, rP, rQ, if_true, Bool.not_true, Bool.false_eq_true, if_false] at q ⊢
                      exact q
                    | false =>
                      rw [hs] at q
                      simp only [rS, rE, rEs, rB, rV, rZ, rC, rI, rU, rT, rP, rQ, if_true, Bool.not_false] at q ⊢
                      exact ⟨l2, q⟩
                  · have t2' : ¬ 1 < t := t2
                    simp only [t2, decide_false, Bool.false_eq_true, if_false, rS, rE, rEs, rB, rV, rZ, rC, rI, rU, rT, rP, rQ, if_true]
                    simp only [t2', decide_false, Bool.false_and, Bool.false_eq_true, if_false] at q
                    exact q
              | _ =>
                simp only [isI, rS, rE, rEs, rB, rV, rZ, rC, rI, rU, rT, rP, rQ, if_true, Bool.not_false]
                exact ⟨l2, q⟩
            · rw [o1] at q
              rw [o2]
              simp only [he, rS, rE, rEs, rB, rV, rZ, rC, rI, rU, rT, rP, rQ, if_true, ints_tru, wO_some]
              rw [List.map_cons]
              simp only [rS, rE, rEs, rB, rV, rZ, rC, rI, rU, rT, rP, rQ, if_true]
              exact ⟨l3, q⟩
        · have ql : runLook n ps i (.tuple [.tuple xs, t]) = .tuple [.str "run", .int i] := by
            show (if 1 ≤ xs.length ∧ xs.length ≤ 40 then _ else _) = _
            rw [if_neg hl]
          rw [ql] at q
          by_cases e1 : (1 : Int) ≤ (xs.length : Int)
          · have e2 : ¬ (xs.length : Int) ≤ 40 := by omega
            simp only [e1, e2, decide_true, decide_false, rS, rE, rEs, rB, rV, rZ, rC, rI, rU, rT, rP, rQ, if_true, Bool.not_false, Bool.false_eq_true, if_false]
            exact ⟨l2, q⟩
          · simp only [e1, decide_false, rS, rE, rEs, rB, rV, rZ, rC, rI, rU, rT, rP, rQ, if_true, Bool.not_false, Bool.false_eq_true, if_false]
            exact ⟨l2, q⟩
      | _ =>
        simp only [tyIs, rS, rE, rEs, rB, rV, rZ, rC, rI, rU, rT, rP, rQ, if_true, Bool.not_false]
        exact ⟨l2, q⟩
    | [], hd, q =>
      simp only [tyIs, rS, rE, rEs, rB, rV, rZ, rC, rI, rU, rT, rP, rQ, if_true, show decide (((([] : List D).length : Nat) : Int) = 2) = false from rfl, Bool.not_true, Bool.not_false, Bool.false_eq_true, if_false]
      exact ⟨l2, q⟩
    | [a], hd, q =>
      rw [show runLook n ps i (.tuple [a]) = .tuple [.str "run", .int i] by cases a <;> rfl] at q
      simp only [tyIs, rS, rE, rEs, rB, rV, rZ, rC, rI, rU, rT, rP, rQ, if_true, show decide ((([a].length : Nat) : Int) = 2) = false from rfl, Bool.not_true, Bool.not_false, Bool.false_eq_true, if_false]
      exact ⟨l2, q⟩
    | a :: b :: c :: r, hd, q =>
      rw [show runLook n ps i (.tuple (a :: b :: c :: r)) = .tuple [.str "run", .int i] by cases a <;> rfl] at q
      have e : decide ((((a :: b :: c :: r).length : Nat) : Int) = 2) = false := by
        rw [decide_eq_false_iff_not]
        simp only [List.length_cons]
        omega
      simp only [tyIs, rS, rE, rEs, rB, rV, rZ, rC, rI, rU, rT, rP, rQ, if_true, e, Bool.not_true, Bool.not_false, Bool.false_eq_true, if_false]
      exact ⟨l2, q⟩
  | _ =>
    simp only [tyIs, rS, rE, rEs, rB, rV, rZ, rC, rI, rU, rT, rP, rQ, if_true, Bool.not_false]
    exact ⟨l2, q⟩
/-! ### a row, looked at -/
noncomputable def rowLookGo (n : Nat) (ps : List Nat) : Nat → List D → D
  | _, [] => .none
  | k, x :: r => match runLook n ps (k : Int) x with
    | .none => rowLookGo n ps (k + 1) r
    | w => w
noncomputable def rowLook (n : Nat) (ps : List Nat) : D → D
  | .list xs => rowLookGo n ps 0 xs
  | _ => .tuple [.str "row"]
theorem runLook_cases (n : Nat) (ps : List Nat) (i : Int) (d : D) : runLook n ps i d = .none ∨ ∃ w, runLook n ps i d = .tuple w := by
  unfold runLook
  repeat' split
  all_goals first | exact .inl rfl | exact .inr ⟨_, rfl⟩
theorem notn_none (Q : Bool → Prop) : wO (cmp .notn .none .none) Q = Q false := rfl
theorem notn_tup (w : List D) (Q : Bool → Prop) : wO (cmp .notn (.tuple w) .none) Q = Q true := rfl
theorem u_row_in : f_row_in.run = evF g_row_in [f_run_in] false 6 b_row_in := rfl
theorem row_in_any {n : Nat} {ps : List Nat} (h2 : 2 ≤ n) (hn : n ≤ 100) {d : D} (hd : Pn d) (Q : DV → List D → Prop) (X) (q : Q (.d (rowLook n ps d)) []) : wF (f_row_in.run [] [.int n, NN ps, d]) Q X := by
  rw [u_row_in, rF, show env0 false 6 [] [.int n, NN ps, d] = [.val (.int n), .val (NN ps), .val d, .un, .un, .un] from rfl]
  simp only [b_row_in, rS, rE, rEs, rB, rV, rZ, rC, rI, rU, rT, rP, rQ, if_true, isi_pn _ hd]
  cases d with
  | list xs =>
    simp only [tyIs, rS, rE, rEs, rB, rV, rZ, rC, rI, rU, rT, rP, rQ, if_true, Bool.not_true, Bool.false_eq_true, if_false]
    refine for_inv (fun zs e => ∃ (k : Nat) (r : List D) (a b c : Slot), zs = enumD k r ∧ (∀ x ∈ r, Pn x) ∧ rowLookGo n ps k r = rowLookGo n ps 0 xs ∧ e = [.val (.int n), .val (NN ps), .val (.list xs), a, b, c]) (fun x r e h => ?_) (fun e h => ?_) _ _ ⟨0, xs, _, _, _, rfl, pn_lst hd, rfl, rfl⟩
    · obtain ⟨k, rr, a, b, c, hx, hp, hr, rfl⟩ := h
      cases rr with
      | nil => cases hx
      | cons y rr =>
        injection hx with hx1 hx2
        subst hx1 hx2
        simp only [rS, rE, rEs, rB, rV, rZ, rC, rI, rU, rT, rP, rQ, if_true]
        refine ⟨rfl, rfl, run_in_any h2 hn (k : Int) (hp y List.mem_cons_self) _ _ ?_⟩
        have hr : (match runLook n ps (k : Int) y with
          | .none => rowLookGo n ps (k + 1) rr
          | w => w) = rowLookGo n ps 0 xs := hr
        rcases runLook_cases n ps (k : Int) y with z | ⟨w, z⟩
        · rw [z] at hr
          rw [z]
          simp only [rS, rE, rEs, rB, rV, rZ, rC, rI, rU, rT, rP, rQ, if_true, notn_none, Bool.false_eq_true, if_false]
          exact ⟨k + 1, rr, _, _, _, rfl, fun x h => hp x (List.mem_cons_of_mem _ h), hr, rfl⟩
        · rw [z] at hr
          rw [z]
          simp only [rS, rE, rEs, rB, rV, rZ, rC, rI, rU, rT, rP, rQ, if_true, notn_tup]
          have e : rowLook n ps (.list xs) = .tuple w := hr.symm
          rw [e] at q
          exact q
    · obtain ⟨k, rr, a, b, c, hx, hp, hr, rfl⟩ := h
      cases rr with
      | cons _ _ => cases hx
      | nil =>
        simp only [rS, rE, rEs, rB, rV, rZ, rC, rI, rU, rT, rP, rQ, if_true]
        have e : rowLook n ps (.list xs) = .none := hr.symm
        rw [e] at q
        exact q
  | _ =>
    simp only [tyIs, rS, rE, rEs, rB, rV, rZ, rC, rI, rU, rT, rP, rQ, if_true, Bool.not_false]
    exact ⟨l1, q⟩
theorem rowLook_ok {n : Nat} {ps : List Nat} : ∀ {rs : List (List (Nat × Nat) × Int)} (k : Nat), (∀ r ∈ rs, RunOk n ps r) → rowLookGo n ps k (rs.map RD) = .none
  | [], _, _ => rfl
  | r :: rs, k, h => by
    obtain ⟨h1, h2, h3, h4, h5, h6⟩ := h r List.mem_cons_self
    have e : runLook n ps (k : Int) (RD r) = .none := by
      show (if 1 ≤ (r.1.map L).length ∧ (r.1.map L).length ≤ 40 then _ else _) = _
      rw [List.length_map, if_pos ⟨h1, h2⟩]
      have f : firstF (leapB n ps) 0 (r.1.map L) = none := by
        rcases odd_first (leapB n ps) 0 (r.1.map L) with ⟨a, _⟩ | ⟨j, s, a, b⟩
        · exact a
        · have hno : (enumD 0 (r.1.map L)).filterMap (oddH (leapB n ps)) = [] := by
            rw [List.filterMap_eq_nil_iff]
            intro z hz
            obtain ⟨i, x, hx, rfl⟩ := mem_enum hz
            obtain ⟨l, hl, rfl⟩ := List.mem_map.mp hx
            exact if_pos (leapB_of (h3 l hl))
          rw [hno] at b
          cases b
      rw [f]
      have ht : timesB (.int r.2) = true := decide_eq_true h4
      rw [if_pos ht]
      have hs : (overOne (.int r.2) && !stX (r.1.map L)) = false := by
        rcases h6 with z | z
        · rw [z]; rfl
        · rw [stX_iff.mpr z]; simp
      rw [if_neg (by rw [hs]; exact Bool.false_ne_true)]
    show (match runLook n ps (k : Int) (RD r) with
      | .none => rowLookGo n ps (k + 1) (rs.map RD)
      | w => w) = .none
    rw [e]
    exact rowLook_ok (k + 1) fun r hr => h r (List.mem_cons_of_mem _ hr)
theorem pn_L (l : Nat × Nat) : Pn (L l) := rfl
theorem pn_RD (r : List (Nat × Nat) × Int) : Pn (RD r) := pn_tup_of fun x hx => by
  simp only [List.mem_cons, List.not_mem_nil, or_false] at hx
  rcases hx with rfl | rfl
  · exact pn_tup_of fun x hx => by
      obtain ⟨l, _, rfl⟩ := List.mem_map.mp hx
      rfl
  · rfl
theorem pn_row (rs : List (List (Nat × Nat) × Int)) : Pn (.list (rs.map RD)) := pn_lst_of fun x hx => by
  obtain ⟨r, _, rfl⟩ := List.mem_map.mp hx
  exact pn_RD r
theorem u_must_be_row : f_must_be_row.run = evF g_must_be_row [f_row_in] false 3 b_must_be_row := rfl
theorem must_be_row_any {n : Nat} {ps : List Nat} (h2 : 2 ≤ n) (hn : n ≤ 100) {d : D} (hd : Pn d) (Q : DV → List D → Prop) (X : Str → List D → List D → Prop) (q : rowLook n ps d = .none → Q (.d .none) []) (qx : rowLook n ps d ≠ .none → X "NoRow" [] []) : wF (f_must_be_row.run [] [.int n, NN ps, d]) Q X := by
  rw [u_must_be_row, rF, show env0 false 3 [] [.int n, NN ps, d] = [.val (.int n), .val (NN ps), .val d] from rfl]
  simp only [b_must_be_row, rS, rE, rEs, rB, rV, rZ, rC, rI, rU, rT, rP, rQ, if_true]
  refine ⟨rfl, rfl, row_in_any h2 hn hd _ _ ?_⟩
  have hc : rowLook n ps d = .none ∨ ∃ w, rowLook n ps d = .tuple w := by
    unfold rowLook
    split
    · rename_i xs
      have : ∀ (k : Nat) (r : List D), rowLookGo n ps k r = .none ∨ ∃ w, rowLookGo n ps k r = .tuple w := by
        intro k r
        induction r generalizing k with
        | nil => exact .inl rfl
        | cons x r ih =>
          rcases runLook_cases n ps (k : Int) x with z | ⟨w, z⟩
          · show (match runLook n ps (k : Int) x with | .none => rowLookGo n ps (k + 1) r | w => w) = .none ∨ ∃ w, (match runLook n ps (k : Int) x with | .none => rowLookGo n ps (k + 1) r | w => w) = .tuple w
            rw [z]
            exact ih (k + 1)
          · right
            refine ⟨w, ?_⟩
            show (match runLook n ps (k : Int) x with | .none => rowLookGo n ps (k + 1) r | w => w) = .tuple w
            rw [z]
      exact this 0 xs
    · exact .inr ⟨_, rfl⟩
  rcases hc with z | ⟨w, z⟩
  · rw [z]
    simp only [rS, rE, rEs, rB, rV, rZ, rC, rI, rU, rT, rP, rQ, if_true, notn_none, Bool.false_eq_true, if_false]
    exact q z
  · rw [z]
    simp only [rS, rE, rEs, rB, rV, rZ, rC, rI, rU, rT, rP, rQ, if_true, notn_tup]
    exact qx (by rw [z]; exact fun h => nomatch h)
theorem must_be_row_ok {n : Nat} {ps : List Nat} (h2 : 2 ≤ n) (hn : n ≤ 6) {rs : List (List (Nat × Nat) × Int)} (h : ∀ r ∈ rs, RunOk n ps r) (Q : DV → List D → Prop) (X) (q : Q (.d .none) []) : wF (f_must_be_row.run [] [.int n, NN ps, .list (rs.map RD)]) Q X :=
  must_be_row_any h2 (by omega) (pn_row rs) Q X (fun _ => q) fun h2 => absurd (rowLook_ok 0 h) h2
/-- a person's new place: its place and t changes -/
def nrow (S : List (List Int)) (t : Int) (c v : List Int) : List Int := List.zipWith (fun x y => x + y) v ((List.range v.length).map fun k => t * dot c (colJ S k))
def stp (ws : List Int) (n : Nat) (S : List (List Int)) (r : List (Nat × Nat) × Int) : List (List Int) := List.zipWith (fun c v => rnd ws (nrow S r.2 c v)) (chg n r.1) S
def b_in : Sxs := (.cons (.app 10 (.bin .mul (.v 5) (.bi .sum (.cons (.comp (.bin .mul (.v 14) (.ix (.v 12) (.v 11))) [14, 12] (.tp [(.nm 14), (.nm 12)]) (.zip true (.cons (.v 9) (.cons (.v 3) .nil))) .non) .nil))))
    .nil)
theorem zipD_JJ (st : Bool) (c : List Int) (S : List (List Int)) (h : st = true → c.length = S.length) (Q : List D → Prop) : wO (zipD st [J c, .list (S.map J)]) Q = Q (List.zipWith (fun x v => PyData.tuple [.int x, J v]) c S) := by
  have e : zipD st [J c, .list (S.map J)] = if st = true → (c.map PyData.int).length = (S.map J).length then some (zipAll [c.map PyData.int, S.map J]) else none := rfl
  rw [e, if_pos (by simpa using h), wO_some]
  have : zipAll [c.map PyData.int, S.map J] = List.zipWith (fun x v => PyData.tuple [.int x, J v]) c S := by
    show ((c.map PyData.int).zip (S.map J)).map (fun p => PyData.tuple [p.1, p.2]) = _
    clear e h
    induction c generalizing S with
    | nil => rfl
    | cons x a ih => cases S with
      | nil => rfl
      | cons y b => simp only [List.map_cons, List.zip_cons_cons, List.zipWith_cons_cons]; rw [ih]
  rw [this]
def q1 (k : Nat) (d : D) : Option D := match d with
  | .tuple [.int x, .list vs] => match vs[k]? with
    | some (.int y) => some (.int (x * y))
    | _ => none
  | _ => none
theorem q1_J {v : List Int} {k : Nat} (x : Int) (h : k < v.length) : q1 k (.tuple [.int x, J v]) = some (.int (x * v.getD k 0)) := by
  show (match (v.map PyData.int)[k]? with | some (.int y) => some (PyData.int (x * y)) | _ => none) = _
  have : (v.map PyData.int)[k]? = some (.int (v.getD k 0)) := pc2_J h
  rw [this]
theorem q1_fm {k : Nat} : ∀ (c : List Int) (S : List (List Int)), (∀ v ∈ S, k < v.length) → (List.zipWith (fun x v => PyData.tuple [.int x, J v]) c S).filterMap (q1 k) = (List.zipWith (fun x y => x * y) c (colJ S k)).map PyData.int
  | [], _, _ => rfl
  | _ :: _, [], _ => rfl
  | x :: c, v :: S, h => by
    rw [List.zipWith_cons_cons, List.filterMap_cons, q1_J x (h v List.mem_cons_self)]
    show PyData.int (x * v.getD k 0) :: _ = _
    rw [q1_fm c S fun v hv => h v (List.mem_cons_of_mem _ hv)]
    rfl
theorem in_go {n w : Nat} {S : List (List Int)} {c v : List Int} {t : Int} (hw : w ≤ 100) (hn : n ≤ 100) (hS : Tab n w S) (hc : c.length = n) (hb : ∀ x ∈ c, x.natAbs < 2 ^ 64) (ht : t.natAbs < 2 ^ 64) (s0 s1 s2 s4 s6 s7 s11 : Slot) (Γ : List Fn) (P : RS → Prop)
    (q : ∀ s11, P (.nx [s0, s1, s2, .val (.list (S.map J)), s4, .val (.int t), s6, s7, .val (J v), .val (J c), .own false (((List.range w).map fun k => t * dot c (colJ S k)).map PyData.int), s11, .un, .un, .un])) :
    wS (forGo (.nm 11) (evSs g_run_through Γ b_in) ((List.range w).map ni) [s0, s1, s2, .val (.list (S.map J)), s4, .val (.int t), s6, s7, .val (J v), .val (J c), .own false [], s11, .un, .un, .un]) P := by
  refine for_inv (fun xs e => ∃ (pre rest : List Nat) (s11 : Slot), List.range w = pre ++ rest ∧ xs = rest.map ni ∧ e = [s0, s1, s2, .val (.list (S.map J)), s4, .val (.int t), s6, s7, .val (J v), .val (J c), .own false ((pre.map fun k => t * dot c (colJ S k)).map PyData.int), s11, .un, .un, .un]) (fun x r e h => ?_) (fun e h => ?_) _ _ ⟨[], List.range w, s11, rfl, rfl, rfl⟩
  · obtain ⟨pre, rest, s11, hr, hx, rfl⟩ := h
    cases rest with
    | nil => cases hx
    | cons k rest =>
      injection hx with hx1 hx2
      subst hx1 hx2
      have hk : k < w := List.mem_range.mp (by rw [hr]; exact List.mem_append_right _ List.mem_cons_self)
      have hpl : pre.length ≤ 100 := by
        have := congrArg List.length hr
        rw [List.length_range, List.length_append] at this
        omega
      simp only [b_in, ni, rS, rE, rEs, rB, rV, rZ, rC, rI, rU]
      rw [zipD_JJ true c S (fun _ => by rw [hc, hS.1])]
      refine ⟨rfl, wR.imp (comp_fm (fun e => ∃ x y, e = [s0, s1, s2, .val (.list (S.map J)), s4, .val (.int t), s6, s7, .val (J v), .val (J c), .own false ((pre.map fun k => t * dot c (colJ S k)).map PyData.int), .val (.int k), x, .un, y]) (q1 k) _ _ ⟨.un, .un, rfl⟩ fun z hz e he => ?_) (fun ys e h => ?_) fun _ _ _ h => False.elim h⟩
      · obtain ⟨x0, y0, rfl⟩ := he
        obtain ⟨x, hx, u, hu, rfl⟩ := mem_zipWith hz
        have lu := hS.2 u hu
        simp only [J, rS, rE, rEs, rB, rV, rZ, rC, rI, rU, wipeE]
        rw [at_nat (j := k) (d := .int (u.getD k 0)) rfl (pc2_J (by omega))]
        simp only [rS, rE, rEs, rB, rV, rZ, rC, rI, rU]
        exact ⟨.inl (hb x hx), ⟨_, _, rfl⟩, (q1_J x (by omega)).symm⟩
      · obtain ⟨⟨x0, y0, rfl⟩, rfl⟩ := h
        rw [q1_fm c S fun u hu => by rw [hS.2 u hu]; exact hk]
        refine ⟨by rw [List.length_map, List.length_zipWith, hc, colJ_len, hS.1, Nat.min_self]; exact Nat.le_trans hn (by decide), ?_⟩
        simp only [rS, rE, rEs, rB, rV, rZ, rC, rI, rU, sum_ints]
        refine ⟨.inl ht, ?_⟩
        rw [show putBack [s0, s1, s2, .val (.list (S.map J)), s4, .val (.int t), s6, s7, .val (J v), .val (J c), .own false ((pre.map fun k => t * dot c (colJ S k)).map PyData.int), .val (.int k), .un, .un, .un] [s0, s1, s2, .val (.list (S.map J)), s4, .val (.int t), s6, s7, .val (J v), .val (J c), .own false ((pre.map fun k => t * dot c (colJ S k)).map PyData.int), .val (.int k), x0, .un, y0] [14, 12] = [s0, s1, s2, .val (.list (S.map J)), s4, .val (.int t), s6, s7, .val (J v), .val (J c), .own false ((pre.map fun k => t * dot c (colJ S k)).map PyData.int), .val (.int k), .un, .un, .un] from rfl]
        simp only [rS, rE, rEs, rB, rV, rZ, rC, rI, rU]
        refine ⟨by rw [List.length_map, List.length_map]; exact Nat.lt_of_le_of_lt hpl (by decide), pre ++ [k], rest, .val (.int k), by rw [hr, List.append_assoc]; rfl, rfl, ?_⟩
        rw [List.map_append, List.map_append]
        rfl
  · obtain ⟨pre, rest, s11, hr, hx, rfl⟩ := h
    cases rest with
    | cons _ _ => cases hx
    | nil =>
      rw [List.append_nil] at hr
      rw [← hr]
      exact q s11
theorem zipD_MM (st : Bool) (C S : List (List Int)) (h : st = true → C.length = S.length) (Q : List D → Prop) : wO (zipD st [.list (C.map J), .list (S.map J)]) Q = Q (List.zipWith (fun c v => PyData.tuple [J c, J v]) C S) := by
  have e : zipD st [.list (C.map J), .list (S.map J)] = if st = true → (C.map J).length = (S.map J).length then some (zipAll [C.map J, S.map J]) else none := rfl
  rw [e, if_pos (by simpa using h), wO_some]
  have : zipAll [C.map J, S.map J] = List.zipWith (fun c v => PyData.tuple [J c, J v]) C S := by
    show ((C.map J).zip (S.map J)).map (fun p => PyData.tuple [p.1, p.2]) = _
    clear e h
    induction C generalizing S with
    | nil => rfl
    | cons x a ih => cases S with
      | nil => rfl
      | cons y b => simp only [List.map_cons, List.zip_cons_cons, List.zipWith_cons_cons]; rw [ih]
  rw [this]
def pr (p : List Int × List Int) : D := .tuple [J p.1, J p.2]
theorem zw_pr (C S : List (List Int)) : List.zipWith (fun c v => PyData.tuple [J c, J v]) C S = (C.zip S).map pr := by
  rw [List.zip, List.map_zipWith]
  rfl
def b_per : Sxs := (.cons (.own 10 (.lst .nil))
    (.cons (.for_ (.nm 11) (.rng (.cons (.bi .len (.cons (.v 8) .nil)) .nil)) b_in)
    (.cons (.app 7 (.comp (.bin .add (.v 12) (.v 13)) [12, 13] (.tp [(.nm 12), (.nm 13)]) (.zip true (.cons (.v 8) (.cons (.frz 10) .nil))) .non))
    .nil)))
theorem per_go {n w : Nat} {S C : List (List Int)} {t : Int} (hw : w ≤ 100) (hn : n ≤ 100) (hS : Tab n w S) (hC : Tab n n C) (hb : ∀ c ∈ C, ∀ x ∈ c, x.natAbs < 2 ^ 64) (ht : t.natAbs < 2 ^ 64) (s0 s1 s2 s4 s6 s8 s9 s10 s11 : Slot) (h8 : plainAt [s8] [0] = true) (Γ : List Fn) (P : RS → Prop)
    (q : ∀ s8 s9 s10 s11, plainAt [s8] [0] = true → P (.nx [s0, s1, s2, .val (.list (S.map J)), s4, .val (.int t), s6, .own false ((List.zipWith (fun c v => nrow S t c v) C S).map J), s8, s9, s10, s11, .un, .un, .un])) :
    wS (forGo (.tp [.nm 9, .nm 8]) (evSs g_run_through Γ b_per) ((C.zip S).map pr) [s0, s1, s2, .val (.list (S.map J)), s4, .val (.int t), s6, .own false [], s8, s9, s10, s11, .un, .un, .un]) P := by
  have e0 : List.zipWith (fun c v => nrow S t c v) C S = (C.zip S).map fun p => nrow S t p.1 p.2 := by
    rw [List.zip, List.map_zipWith]
  rw [e0] at q
  refine for_inv (fun xs e => ∃ (pre rest : List (List Int × List Int)) (s8 s9 s10 s11 : Slot), C.zip S = pre ++ rest ∧ xs = rest.map pr ∧ plainAt [s8] [0] = true ∧ e = [s0, s1, s2, .val (.list (S.map J)), s4, .val (.int t), s6, .own false ((pre.map fun p => nrow S t p.1 p.2).map J), s8, s9, s10, s11, .un, .un, .un]) (fun x r e h => ?_) (fun e h => ?_) _ _ ⟨[], C.zip S, s8, s9, s10, s11, rfl, rfl, h8, rfl⟩
  · obtain ⟨pre, rest, s8, s9, s10, s11, hr, hx, h8, rfl⟩ := h
    cases rest with
    | nil => cases hx
    | cons k rest =>
      obtain ⟨c, v⟩ := k
      injection hx with hx1 hx2
      subst hx1 hx2
      have hm : (c, v) ∈ C.zip S := by rw [hr]; exact List.mem_append_right _ List.mem_cons_self
      have hcC : c ∈ C := (List.of_mem_zip hm).1
      have hvS : v ∈ S := (List.of_mem_zip hm).2
      have lc := hC.2 c hcC
      have lv := hS.2 v hvS
      have hpl : pre.length ≤ 100 := by
        have := congrArg List.length hr
        rw [List.length_zip, List.length_append, hC.1, hS.1] at this
        omega
      simp only [b_per, pr, rS, rE, rEs, rB, rV, rZ, rC, rI, rU]
      rw [show J v = PyData.list (v.map PyData.int) from rfl]
      simp only [rS, rE, rEs, rB, rV, rZ, rC, rI, rU, List.length_map, lv]
      rw [Int.toNat_natCast, rng0]
      refine ⟨l0, big_of (by omega) (by omega), in_go (v := v) hw hn hS lc (hb c hcC) ht _ _ _ _ _ _ _ _ _ fun s11 => ?_⟩
      simp only [rS, rE, rEs, rB, rV, rZ, rC, rI, rU]
      generalize hK : (List.range w).map (fun k => t * dot c (colJ S k)) = K
      have lK : K.length = w := by rw [← hK, List.length_map, List.length_range]
      have hN : nrow S t c v = List.zipWith (fun x y => x + y) v K := by unfold nrow; rw [lv, hK]
      rw [show PyData.list (K.map PyData.int) = J K from rfl, zipD_J true v K (fun _ => by rw [lv, lK])]
      refine ⟨rfl, wR.imp (comp_fm (fun e => ∃ x y, e = [s0, s1, s2, .val (.list (S.map J)), s4, .val (.int t), s6, .own false ((pre.map fun p => nrow S t p.1 p.2).map J), .val (J v), .val (J c), .val (J K), s11, x, y, .un]) (on2 fun x y => .int (x + y)) _ _ ⟨.un, .un, rfl⟩ fun z hz e he => ?_) (fun ys e h => ?_) fun _ _ _ h => False.elim h⟩
      · obtain ⟨x0, y0, rfl⟩ := he
        obtain ⟨x, hx, y, _, rfl⟩ := mem_zipWith hz
        simp only [rS, rE, rEs, rB, rV, rZ, rC, rI, rU, wipeE]
        exact ⟨⟨_, _, rfl⟩, rfl⟩
      · obtain ⟨⟨x0, y0, rfl⟩, rfl⟩ := h
        rw [fm_on2 fun x y => x + y]
        refine ⟨by rw [List.length_map, List.length_zipWith, lv, lK, Nat.min_self]; exact Nat.le_trans hw (by decide), ?_⟩
        rw [show putBack [s0, s1, s2, Slot.val (.list (S.map J)), s4, .val (.int t), s6, .own false ((pre.map fun p => nrow S t p.1 p.2).map J), .val (J v), .val (J c), .val (J K), s11, .un, .un, .un] [s0, s1, s2, .val (.list (S.map J)), s4, .val (.int t), s6, .own false ((pre.map fun p => nrow S t p.1 p.2).map J), .val (J v), .val (J c), .val (J K), s11, x0, y0, .un] [12, 13] = [s0, s1, s2, .val (.list (S.map J)), s4, .val (.int t), s6, .own false ((pre.map fun p => nrow S t p.1 p.2).map J), .val (J v), .val (J c), .val (J K), s11, .un, .un, .un] from rfl]
        simp only [rS, rE, rEs, rB, rV, rZ, rC, rI, rU]
        refine ⟨by rw [List.length_map, List.length_map]; exact Nat.lt_of_le_of_lt hpl (by decide), pre ++ [(c, v)], rest, .val (J v), .val (J c), .val (J K), s11, by rw [hr, List.append_assoc]; rfl, rfl, rfl, ?_⟩
        rw [List.map_append, List.map_append]
        show _ = [s0, s1, s2, Slot.val (.list (S.map J)), s4, .val (.int t), s6, .own false (_ ++ [J (nrow S t c v)]), _, _, _, _, _, _, _]
        rw [hN]
        rfl
  · obtain ⟨pre, rest, s8, s9, s10, s11, hr, hx, h8, rfl⟩ := h
    cases rest with
    | cons _ _ => cases hx
    | nil =>
      rw [List.append_nil] at hr
      rw [← hr]
      exact q _ _ _ _ h8
theorem nrow_len {n w : Nat} {S : List (List Int)} {t : Int} {c v : List Int} (hv : v.length = w) : (nrow S t c v).length = w := by
  unfold nrow
  rw [List.length_zipWith, List.length_map, List.length_range, hv, Nat.min_self]
theorem rnd_len' {ws v : List Int} (h : v.length = ws.length) : (rnd ws v).length = ws.length := by
  have : ∀ (ws v : List Int), v.length = ws.length → (rnd ws v).length = ws.length := by
    intro ws
    induction ws with
    | nil => intro v _; rfl
    | cons w ws ih => intro v h; cases v with
      | nil => cases h
      | cons x v => exact congrArg (· + 1) (ih v (by simpa using h))
  exact this ws v h
theorem stp_eq (ws : List Int) (n : Nat) (S : List (List Int)) (r : List (Nat × Nat) × Int) : stp ws n S r = (List.zipWith (fun c v => nrow S r.2 c v) (chg n r.1) S).map (rnd ws) := by
  unfold stp
  rw [List.map_zipWith]
theorem stp_tab {ws : List Int} {n : Nat} {S : List (List Int)} {r : List (Nat × Nat) × Int} (hS : Tab n ws.length S) (hl : ∀ l ∈ r.1, l.1 < n ∧ l.2 < n) : Tab n ws.length (stp ws n S r) := by
  refine ⟨by unfold stp; rw [List.length_zipWith, (chg_tab hl).1, hS.1, Nat.min_self], fun v hv => ?_⟩
  unfold stp at hv
  obtain ⟨c, hc, u, hu, rfl⟩ := mem_zipWith hv
  exact rnd_len' (nrow_len (n := n) (hS.2 u hu))
def lsI (d : D) : Option D := match d with
  | .tuple xs => some (.list xs)
  | _ => none
def rdJ (ws : List Int) (d : D) : Option D := match d with
  | .list xs => (ints? xs).map fun v => J (rnd ws v)
  | _ => none
def tpJ (d : D) : Option D := match d with
  | .list xs => some (.tuple xs)
  | _ => none
theorem u_run_through : f_run_through.run = evF g_run_through [f_change_of, f_round_about] false 15 b_run_through := rfl
theorem run_through_ok {ws : List Int} {n : Nat} {ps : List Nat} (hn : n ≤ 100) (hw : ws.length ≤ 100) {S : List (List Int)} (hS : Tab n ws.length S) {rs : List (List (Nat × Nat) × Int)} (hr : ∀ r ∈ rs, RunOk n ps r) (Q : DV → List D → Prop) (X)
    (q : Q (.d (SD (rs.foldl (stp ws n) S))) []) : wF (f_run_through.run [] [Y ws n ps, SD S, .list (rs.map RD)]) Q X := by
  rw [u_run_through, rF, show env0 false 15 [] [Y ws n ps, SD S, .list (rs.map RD)] = [.val (.tuple [I ws, .int n, NN ps]), .val (.tuple (S.map I)), .val (.list (rs.map RD)), .un, .un, .un, .un, .un, .un, .un, .un, .un, .un, .un, .un] from rfl]
  simp only [b_run_through, rS, rE, rEs, rB, rV, rZ, rC, rI, rU]
  refine ⟨rfl, wR.imp (comp_fm (fun e => ∃ x, e = [.val (.tuple [I ws, .int n, NN ps]), .val (.tuple (S.map I)), .val (.list (rs.map RD)), .un, .un, .un, .un, .un, x, .un, .un, .un, .un, .un, .un]) lsI _ _ ⟨.un, rfl⟩ fun z hz e he => ?_) (fun ys e h => ?_) fun _ _ _ h => False.elim h⟩
  · obtain ⟨x0, rfl⟩ := he
    obtain ⟨v, hv, rfl⟩ := List.mem_map.mp hz
    unfold I
    simp only [rS, rE, rEs, rB, rV, rZ, rC, rI, rU, wipeE]
    exact ⟨⟨_, rfl⟩, rfl⟩
  · obtain ⟨⟨x0, rfl⟩, rfl⟩ := h
    rw [fm_map (f := I) (g := lsI) (h := J) fun v _ => rfl]
    refine ⟨by rw [List.length_map, hS.1]; exact Nat.le_trans hn (by decide), ?_⟩
    rw [show putBack [Slot.val (.tuple [I ws, .int n, NN ps]), .val (.tuple (S.map I)), .val (.list (rs.map RD)), .un, .un, .un, .un, .un, .un, .un, .un, .un, .un, .un, .un] [Slot.val (.tuple [I ws, .int n, NN ps]), .val (.tuple (S.map I)), .val (.list (rs.map RD)), .un, .un, .un, .un, .un, x0, .un, .un, .un, .un, .un, .un] [8] = [Slot.val (.tuple [I ws, .int n, NN ps]), .val (.tuple (S.map I)), .val (.list (rs.map RD)), .un, .un, .un, .un, .un, .un, .un, .un, .un, .un, .un, .un] from rfl]
    simp only [rS, rE, rEs, rB, rV, rZ, rC, rI, rU]
    refine for_inv (fun xs e => ∃ (T : List (List Int)) (rest : List (List (Nat × Nat) × Int)) (s4 s5 s6 s7 s8 s9 s10 s11 : Slot), xs = rest.map RD ∧ plainAt [s8] [0] = true ∧ Tab n ws.length T ∧ (∀ r ∈ rest, RunOk n ps r) ∧ rest.foldl (stp ws n) T = rs.foldl (stp ws n) S ∧ e = [.val (.tuple [I ws, .int n, NN ps]), .val (.tuple (S.map I)), .val (.list (rs.map RD)), .val (.list (T.map J)), s4, s5, s6, s7, s8, s9, s10, s11, .un, .un, .un]) (fun x r e h => ?_) (fun e h => ?_) _ _ ⟨S, rs, .un, .un, .un, .un, .un, .un, .un, .un, rfl, rfl, hS, hr, rfl, rfl⟩
    · obtain ⟨T, rest, s4, s5, s6, s7, s8, s9, s10, s11, hx, h8, hT, hro, hf, rfl⟩ := h
      cases rest with
      | nil => cases hx
      | cons k rest =>
        obtain ⟨ls, t⟩ := k
        injection hx with hx1 hx2
        subst hx1 hx2
        obtain ⟨k1, k2, k3, k4, k5, k6⟩ := hro (ls, t) List.mem_cons_self
        have k2 : ls.length ≤ 40 := k2
        have k4 : 1 ≤ t := k4
        have k5 : t < 100000000000 := k5
        have hb : ∀ l ∈ ls, l.1 < n ∧ l.2 < n := fun l hl => ⟨(k3 l hl).1, (k3 l hl).2.1⟩
        simp only [RD, rS, rE, rEs, rB, rV, rZ, rC, rI, rU]
        refine ⟨rfl, rfl, change_ok hn hb _ _ ?_⟩
        simp only [rS, rE, rEs, rB, rV, rZ, rC, rI, rU]
        rw [zipD_MM true _ _ (fun _ => by rw [(chg_tab hb).1, hT.1]), zw_pr]
        refine ⟨l0, per_go (C := chg n ls) (t := t) hw hn hT (chg_tab hb) (chg_bd hb k2) (by omega) _ _ _ _ _ s8 s9 s10 s11 h8 _ _ fun s8 s9 s10 s11 h8 => ?_⟩
        simp only [rS, rE, rEs, rB, rV, rZ, rC, rI, rU]
        have hlen : (List.zipWith (fun c v => nrow T t c v) (chg n ls) T).length = n := by rw [List.length_zipWith, (chg_tab hb).1, hT.1, Nat.min_self]
        have hrow : ∀ v ∈ List.zipWith (fun c v => nrow T t c v) (chg n ls) T, v.length = ws.length := fun v hv => by
          obtain ⟨c, hc, u, hu, rfl⟩ := mem_zipWith hv
          exact nrow_len (n := n) (hT.2 u hu)
        have he := stp_eq ws n T (ls, t)
        have he : stp ws n T (ls, t) = (List.zipWith (fun c v => nrow T t c v) (chg n ls) T).map (rnd ws) := he
        generalize List.zipWith (fun c v => nrow T t c v) (chg n ls) T = Z at hlen hrow he ⊢
        refine ⟨h8, wR.imp (comp_fm (fun e => ∃ x, e = [.val (.tuple [I ws, .int n, NN ps]), .val (.tuple (S.map I)), .val (.list (rs.map RD)), .val (.list (T.map J)), .val (.tuple (ls.map L)), .val (.int t), .val (.list ((chg n ls).map J)), .val (.list (Z.map J)), x, s9, s10, s11, .un, .un, .un]) (rdJ ws) _ _ ⟨.un, rfl⟩ fun z hz e he => ?_) (fun ys e h => ?_) fun _ _ _ h => False.elim h⟩
        · obtain ⟨x0, rfl⟩ := he
          obtain ⟨v, hv, rfl⟩ := List.mem_map.mp hz
          simp only [J, rS, rE, rEs, rB, rV, rZ, rC, rI, rU, wipeE]
          refine ⟨rfl, rfl, round_about_ok hw (hrow v hv) true _ _ ?_⟩
          unfold I
          simp only [rS, rE, rEs, rB, rV, rZ, rC, rI, rU]
          refine ⟨⟨_, rfl⟩, ?_⟩
          show _ = (ints? (v.map PyData.int)).map fun v => J (rnd ws v)
          rw [ints_J]
          rfl
        · obtain ⟨⟨x0, rfl⟩, rfl⟩ := h
          rw [fm_map (f := J) (g := rdJ ws) (h := fun v => J (rnd ws v)) fun v _ => by
            show (ints? (v.map PyData.int)).map (fun v => J (rnd ws v)) = _
            rw [ints_J]; rfl]
          refine ⟨by rw [List.length_map, hlen]; exact Nat.le_trans hn (by decide), stp ws n T (ls, t), rest, .val (.tuple (ls.map L)), .val (.int t), .val (.list ((chg n ls).map J)), .val (.list (Z.map J)), s8, s9, s10, s11, rfl, h8, stp_tab hT hb, fun r h => hro r (List.mem_cons_of_mem _ h), hf, ?_⟩
          rw [he, List.map_map]
          rfl
    · obtain ⟨T, rest, s4, s5, s6, s7, s8, s9, s10, s11, hx, h8, hT, hro, hf, rfl⟩ := h
      cases rest with
      | cons _ _ => cases hx
      | nil =>
        simp only [rS, rE, rEs, rB, rV, rZ, rC, rI, rU]
        refine ⟨h8, wR.imp (comp_fm (fun e => ∃ x, e = [.val (.tuple [I ws, .int n, NN ps]), .val (.tuple (S.map I)), .val (.list (rs.map RD)), .val (.list (T.map J)), s4, s5, s6, s7, x, s9, s10, s11, .un, .un, .un]) tpJ _ _ ⟨.un, rfl⟩ fun z hz e he => ?_) (fun ys e h => ?_) fun _ _ _ h => False.elim h⟩
        · obtain ⟨x0, rfl⟩ := he
          obtain ⟨v, hv, rfl⟩ := List.mem_map.mp hz
          unfold J
          simp only [rS, rE, rEs, rB, rV, rZ, rC, rI, rU, wipeE]
          exact ⟨⟨_, rfl⟩, rfl⟩
        · obtain ⟨⟨x0, rfl⟩, rfl⟩ := h
          rw [fm_map (f := J) (g := tpJ) (h := I) fun v _ => rfl]
          refine ⟨by rw [List.length_map, hT.1]; exact Nat.le_trans hn (by decide), ?_⟩
          rw [← hf] at q
          exact q
theorem st_tab {ws : List Int} {n : Nat} {S : List (List Int)} (h : StOk ws n S) : Tab n ws.length S := ⟨h.1, fun v hv => (h.2 v hv).1⟩
theorem u_done : f_done.run = evF g_done [f_must_be_yard, f_must_be_standing, f_must_be_row, f_run_through] false 3 b_done := rfl
theorem done_ok {ws : List Int} {n : Nat} {ps : List Nat} {S : List (List Int)} (y : YardOk ws n ps) (st : StOk ws n S) (h2 : 2 ≤ n) (hn : n ≤ 6) (hw : ws.length ≤ 100) {rs : List (List (Nat × Nat) × Int)} (hr : ∀ r ∈ rs, RunOk n ps r) (Q : DV → List D → Prop) (X)
    (q : Q (.d (SD (rs.foldl (stp ws n) S))) []) : wF (f_done.run [] [Y ws n ps, SD S, .list (rs.map RD)]) Q X := by
  rw [u_done, rF, show env0 false 3 [] [Y ws n ps, SD S, .list (rs.map RD)] = [.val (.tuple [I ws, .int n, NN ps]), .val (SD S), .val (.list (rs.map RD))] from rfl]
  simp only [b_done, rS, rE, rEs, rB, rV, rZ, rC, rI, rU]
  refine ⟨rfl, rfl, must_be_yard_ok y _ _ ?_⟩
  refine ⟨rfl, rfl, must_be_standing_ok y st _ _ ?_⟩
  try simp only [rS, rE, rEs, rB, rV, rZ, rC, rI, rU]
  refine ⟨rfl, rfl, must_be_row_ok h2 hn hr _ _ ?_⟩
  try simp only [rS, rE, rEs, rB, rV, rZ, rC, rI, rU]
  exact ⟨rfl, rfl, run_through_ok (ps := ps) (by omega) hw (st_tab st) hr _ _ q⟩
end K06


set_option Elab.async false
set_option linter.all false
set_option maxRecDepth 100000
set_option maxHeartbeats 4000000
namespace K06
open PySem DL
/-- a run's step, from its first move -/
def lstp (ws : List Int) (S : List (List Int)) (r : List (Nat × Nat) × Int) : List (List Int) := List.zipWith (fun h b => rnd ws (put h (put b h (-1)) r.2)) S (places S r.1)
theorem put_len' {a b : List Int} {t : Int} : (put a b t).length = min a.length b.length := List.length_zipWith
theorem stp_lstp {ws : List Int} {n : Nat} {S : List (List Int)} {r : List (Nat × Nat) × Int} (hS : Tab n ws.length S) (hl : ∀ l ∈ r.1, l.1 < n ∧ l.2 < n) : stp ws n S r = lstp ws S r := by
  have hP := pl_tab hS hl
  have hC := chg_tab hl
  have l1 : (stp ws n S r).length = n := (stp_tab hS hl).1
  have l2 : (lstp ws S r).length = n := by unfold lstp; rw [List.length_zipWith, hS.1, hP.1, Nat.min_self]
  refine ext_D (d := []) (by rw [l1, l2]) fun i hi => ?_
  rw [l1] at hi
  unfold stp lstp
  rw [zw_at (da := []) (db := []) (by rw [hC.1]; exact hi) (by rw [hS.1]; exact hi), zw_at (da := []) (db := []) (by rw [hS.1]; exact hi) (by rw [hP.1]; exact hi)]
  congr 1
  have e1 := row_len hS hi
  have e2 := row_len hP hi
  have e3 : (nrow S r.2 ((chg n r.1).getD i []) (S.getD i [])).length = ws.length := nrow_len (n := n) e1
  refine ext_D (d := 0) (by rw [e3, put_len', put_len', e1, e2, Nat.min_self, Nat.min_self]) fun k hk => ?_
  rw [e3] at hk
  have p1 : k < (S.getD i []).length := by rw [e1]; exact hk
  have p2 : k < ((places S r.1).getD i []).length := by rw [e2]; exact hk
  unfold nrow put
  rw [zw_at (da := 0) (db := 0) p1 (by rw [List.length_map, List.length_range]; exact p1), map_at p1, chg_dot hS hl hi hk,
    zw_at (da := 0) (db := 0) p1 (by rw [List.length_zipWith]; omega), zw_at (da := 0) (db := 0) p2 p1]
  congr 2
  omega
def seqR (ws : List Int) (S : List (List Int)) (ls : List (Nat × Nat)) : List (List Int) := ls.foldl (lpR ws) S
def itr {α : Type} (f : α → α) : Nat → α → α
  | 0, x => x
  | k + 1, x => itr f k (f x)
def bl (ws : List Int) (S : List (List Int)) (r : List (Nat × Nat) × Int) : List (List Int) := itr (fun S => seqR ws S r.1) r.2.toNat S
theorem lpR_st {ws : List Int} {n : Nat} {S : List (List Int)} {l : Nat × Nat} (h : StOk ws n S) (h1 : l.1 < n) (h2 : l.2 < n) : StOk ws n (lpR ws S l) := by
  refine ⟨by unfold lpR; rw [List.length_set]; exact h.1, fun v hv => ?_⟩
  unfold lpR at hv
  rcases List.mem_or_eq_of_mem_set hv with z | z
  · exact h.2 v z
  · rw [z]
    refine rnd_in ?_
    unfold over
    rw [List.length_zipWith, (h.2 _ (getD_mem (by rw [h.1]; exact h1)).1).1, (h.2 _ (getD_mem (by rw [h.1]; exact h2)).1).1, Nat.min_self]
theorem getD_map {α β : Type} {f : α → β} {S : List α} {a : Nat} {d : α} {e : β} (h : a < S.length) : (S.map f).getD a e = f (S.getD a d) := by
  simp [List.getD_eq_getElem?_getD, List.getElem?_map, List.getElem?_eq_getElem h]
theorem lpR_map {ws : List Int} {n : Nat} {T : List (List Int)} {l : Nat × Nat} (hT : T.length = n) (h1 : l.1 < n) (h2 : l.2 < n) : lpR ws (T.map (rnd ws)) l = (lp T l).map (rnd ws) := by
  unfold lpR lp
  rw [getD_map (d := []) (by omega), getD_map (d := []) (by omega), rnd_over, List.map_set]
theorem lp_len (T : List (List Int)) (l : Nat × Nat) : (lp T l).length = T.length := by unfold lp; rw [List.length_set]
theorem pl_len : ∀ (ls : List (Nat × Nat)) (T : List (List Int)), (places T ls).length = T.length
  | [], _ => rfl
  | l :: ls, T => (pl_len ls (lp T l)).trans (lp_len T l)
theorem seqR_map {ws : List Int} {n : Nat} : ∀ {ls : List (Nat × Nat)} {T : List (List Int)}, T.length = n → (∀ l ∈ ls, l.1 < n ∧ l.2 < n) → seqR ws (T.map (rnd ws)) ls = (places T ls).map (rnd ws)
  | [], _, _, _ => rfl
  | l :: ls, T, hT, hl => by
    obtain ⟨h1, h2⟩ := hl l List.mem_cons_self
    show seqR ws (lpR ws (T.map (rnd ws)) l) ls = _
    rw [lpR_map hT h1 h2]
    exact seqR_map ((lp_len T l).trans hT) fun l h => hl l (List.mem_cons_of_mem _ h)
theorem itr_map {ws : List Int} {n : Nat} {ls : List (Nat × Nat)} (hl : ∀ l ∈ ls, l.1 < n ∧ l.2 < n) : ∀ (k : Nat) (T : List (List Int)), T.length = n → itr (fun S => seqR ws S ls) k (T.map (rnd ws)) = (itr (fun S => places S ls) k T).map (rnd ws)
  | 0, _, _ => rfl
  | k + 1, T, hT => by
    show itr (fun S => seqR ws S ls) k (seqR ws (T.map (rnd ws)) ls) = _
    rw [seqR_map hT hl]
    exact itr_map hl k (places T ls) ((pl_len ls T).trans hT)
theorem st_map {ws : List Int} {n : Nat} {S : List (List Int)} (h : StOk ws n S) : S.map (rnd ws) = S := by
  have : ∀ v ∈ S, rnd ws v = v := fun v hv => (h.2 v hv).2
  rw [List.map_congr_left this, List.map_id']
theorem itr_tab {n w : Nat} {ls : List (Nat × Nat)} (hl : ∀ l ∈ ls, l.1 < n ∧ l.2 < n) : ∀ (k : Nat) (S : List (List Int)), Tab n w S → Tab n w (itr (fun S => places S ls) k S)
  | 0, _, h => h
  | k + 1, S, h => itr_tab hl k _ (pl_tab h hl)
/-- what t steady runs come to, column by column -/
theorem itr_en {n w c : Nat} (hc : c < w) {ls : List (Nat × Nat)} (hl : ∀ l ∈ ls, l.1 < n ∧ l.2 < n) : ∀ (k : Nat) (S : List (List Int)), Tab n w S → (k ≤ 1 ∨ SteadyX ls) → ∀ i, en (itr (fun S => places S ls) k S) c i = en S c i + k * (en (places S ls) c i - en S c i)
  | 0, S, _, _, i => by simp [itr]
  | k + 1, S, hS, hk, i => by
    show en (itr (fun S => places S ls) k (places S ls)) c i = _
    rw [itr_en hc hl k (places S ls) (pl_tab hS hl) (by rcases hk with h | h; · left; omega
                                                        · exact .inr h) i]
    rcases hk with h | h
    · have : k = 0 := by omega
      subst this
      simp
      omega
    · have e := h (en S c) i
      rw [en_run hc ls _ (pl_tab hS hl) hl, en_run hc ls _ hS hl, e]
      rw [Int.natCast_add, Int.add_mul]
      simp
      omega
theorem en_ext {n w : Nat} {A B : List (List Int)} (hA : Tab n w A) (hB : Tab n w B) (h : ∀ i, i < n → ∀ k, k < w → en A k i = en B k i) : A = B := by
  refine ext_D (d := []) (by rw [hA.1, hB.1]) fun i hi => ?_
  rw [hA.1] at hi
  refine ext_D (d := 0) (by rw [row_len hA hi, row_len hB hi]) fun k hk => ?_
  rw [row_len hA hi] at hk
  exact h i hi k hk
/-- a step ahead of rounding -/
def raw (S : List (List Int)) (r : List (Nat × Nat) × Int) : List (List Int) := List.zipWith (fun h b => put h (put b h (-1)) r.2) S (places S r.1)
theorem lstp_raw (ws : List Int) (S : List (List Int)) (r : List (Nat × Nat) × Int) : lstp ws S r = (raw S r).map (rnd ws) := by
  unfold lstp raw
  rw [List.map_zipWith]
theorem raw_tab {n w : Nat} {S : List (List Int)} {r : List (Nat × Nat) × Int} (hS : Tab n w S) (hl : ∀ l ∈ r.1, l.1 < n ∧ l.2 < n) : Tab n w (raw S r) := by
  have hP := pl_tab hS hl
  refine ⟨by unfold raw; rw [List.length_zipWith, hS.1, hP.1, Nat.min_self], fun v hv => ?_⟩
  obtain ⟨a, ha, b, hb, rfl⟩ := mem_zipWith hv
  rw [put_len', put_len', hS.2 _ ha, hP.2 _ hb, Nat.min_self, Nat.min_self]
theorem raw_itr {n w : Nat} {S : List (List Int)} {ls : List (Nat × Nat)} {t : Nat} (hS : Tab n w S) (hl : ∀ l ∈ ls, l.1 < n ∧ l.2 < n) (ht : t ≤ 1 ∨ SteadyX ls) : raw S (ls, (t : Int)) = itr (fun S => places S ls) t S := by
  have hP := pl_tab hS hl
  refine en_ext (n := n) (w := w) (raw_tab hS hl) (itr_tab hl t S hS) fun i hi k hk => ?_
  rw [itr_en hk hl t S hS ht i]
  unfold en raw
  dsimp only
  have p1 : k < (S.getD i []).length := by rw [row_len hS hi]; exact hk
  have p2 : k < ((places S ls).getD i []).length := by rw [row_len hP hi]; exact hk
  rw [zw_at (da := []) (db := []) (by rw [hS.1]; exact hi) (by rw [hP.1]; exact hi)]
  unfold put
  rw [zw_at (da := 0) (db := 0) p1 (by rw [List.length_zipWith]; omega), zw_at (da := 0) (db := 0) p2 p1]
  rw [show ∀ a b : Int, b + -1 * a = b - a from fun a b => by omega]
theorem lstp_bl {ws : List Int} {n : Nat} {S : List (List Int)} {ls : List (Nat × Nat)} {t : Int} (hS : StOk ws n S) (hl : ∀ l ∈ ls, l.1 < n ∧ l.2 < n) (h0 : 0 ≤ t) (ht : t ≤ 1 ∨ SteadyX ls) : lstp ws S (ls, t) = bl ws S (ls, t) := by
  obtain ⟨k, rfl⟩ : ∃ k : Nat, t = (k : Int) := ⟨t.toNat, by omega⟩
  rw [lstp_raw, raw_itr (st_tab hS) hl (by rcases ht with h | h; · left; omega
                                           · exact .inr h), ← itr_map hl k S hS.1, st_map hS]
  rfl
theorem lstp_st {ws : List Int} {n : Nat} {S : List (List Int)} {r : List (Nat × Nat) × Int} (hS : StOk ws n S) (hl : ∀ l ∈ r.1, l.1 < n ∧ l.2 < n) : StOk ws n (lstp ws S r) := by
  have hR := raw_tab (r := r) (st_tab hS) hl
  rw [lstp_raw]
  refine ⟨by rw [List.length_map, hR.1], fun v hv => ?_⟩
  obtain ⟨u, hu, rfl⟩ := List.mem_map.mp hv
  exact rnd_in (hR.2 u hu)
theorem places_at {n w i : Nat} : ∀ {ls : List (Nat × Nat)} {S : List (List Int)}, Tab n w S → (∀ l ∈ ls, l.1 < n ∧ l.2 < n) → (∀ l ∈ ls, l.1 ≠ i) → (places S ls).getD i [] = S.getD i []
  | [], _, _, _, _ => rfl
  | l :: ls, S, hS, hl, hi => by
    obtain ⟨h1, h2⟩ := hl l List.mem_cons_self
    have ih := places_at (i := i) (lp_tab hS h1 h2) (fun l h => hl l (List.mem_cons_of_mem _ h)) fun l h => hi l (List.mem_cons_of_mem _ h)
    show (places (lp S l) ls).getD i [] = _
    rw [ih, lp_at hS h1, if_neg (Ne.symm (hi l List.mem_cons_self))]
theorem put_self (t : Int) : ∀ v : List Int, put v (put v v (-1)) t = v
  | [] => rfl
  | x :: v => by
    have ih := put_self t v
    unfold put at ih ⊢
    simp only [List.zipWith_cons_cons]
    rw [ih]
    congr 1
    rw [show x + -1 * x = 0 by omega]
    omega
theorem lstp_at {ws : List Int} {n i : Nat} {S : List (List Int)} {r : List (Nat × Nat) × Int} (hS : StOk ws n S) (hl : ∀ l ∈ r.1, l.1 < n ∧ l.2 < n) (hi : i < n) (h : ∀ l ∈ r.1, l.1 ≠ i) : (lstp ws S r).getD i [] = S.getD i [] := by
  have hT := st_tab hS
  have hP := pl_tab hT hl
  unfold lstp
  rw [zw_at (da := []) (db := []) (by rw [hS.1]; exact hi) (by rw [hP.1]; exact hi), places_at hT hl h, put_self]
  exact (hS.2 _ (getD_mem (by rw [hS.1]; exact hi)).1).2
theorem run_lt {n : Nat} {ps : List Nat} {r : List (Nat × Nat) × Int} (h : ∀ l ∈ r.1, LeapOk n ps l) : ∀ l ∈ r.1, l.1 < n ∧ l.2 < n := fun l hl => ⟨(h l hl).1, (h l hl).2.1⟩
theorem fold_st {ws : List Int} {n : Nat} {ps : List Nat} : ∀ {rs : List (List (Nat × Nat) × Int)} {S : List (List Int)}, StOk ws n S → (∀ r ∈ rs, ∀ l ∈ r.1, LeapOk n ps l) → StOk ws n (rs.foldl (lstp ws) S)
  | [], _, h, _ => h
  | r :: rs, S, h, hr => by
    show StOk ws n (rs.foldl (lstp ws) (lstp ws S r))
    exact fold_st (lstp_st h (run_lt (hr r List.mem_cons_self))) fun r h => hr r (List.mem_cons_of_mem _ h)
theorem fold_stp {ws : List Int} {n : Nat} {ps : List Nat} : ∀ {rs : List (List (Nat × Nat) × Int)} {S : List (List Int)}, StOk ws n S → (∀ r ∈ rs, ∀ l ∈ r.1, LeapOk n ps l) → rs.foldl (stp ws n) S = rs.foldl (lstp ws) S
  | [], _, _, _ => rfl
  | r :: rs, S, h, hr => by
    have h1 := run_lt (hr r List.mem_cons_self)
    show rs.foldl (stp ws n) (stp ws n S r) = rs.foldl (lstp ws) (lstp ws S r)
    rw [stp_lstp (st_tab h) h1]
    exact fold_stp (lstp_st h h1) fun r h => hr r (List.mem_cons_of_mem _ h)
theorem fold_bl {ws : List Int} {n : Nat} {ps : List Nat} : ∀ {rs : List (List (Nat × Nat) × Int)} {S : List (List Int)}, StOk ws n S → (∀ r ∈ rs, (∀ l ∈ r.1, LeapOk n ps l) ∧ 0 ≤ r.2 ∧ (r.2 ≤ 1 ∨ SteadyX r.1)) → rs.foldl (lstp ws) S = rs.foldl (bl ws) S
  | [], _, _, _ => rfl
  | r :: rs, S, h, hr => by
    obtain ⟨h1, h2, h3⟩ := hr r List.mem_cons_self
    have h1 := run_lt h1
    show rs.foldl (lstp ws) (lstp ws S r) = rs.foldl (bl ws) (bl ws S r)
    rw [← lstp_bl (t := r.2) h h1 h2 h3]
    exact fold_bl (lstp_st h h1) fun r h => hr r (List.mem_cons_of_mem _ h)
theorem fold_at {ws : List Int} {n i : Nat} {ps : List Nat} (hi : i < n) (hp : i ∈ ps) : ∀ {rs : List (List (Nat × Nat) × Int)} {S : List (List Int)}, StOk ws n S → (∀ r ∈ rs, ∀ l ∈ r.1, LeapOk n ps l) → (rs.foldl (lstp ws) S).getD i [] = S.getD i []
  | [], _, _, _ => rfl
  | r :: rs, S, h, hr => by
    have h0 := hr r List.mem_cons_self
    have h1 := run_lt h0
    show (rs.foldl (lstp ws) (lstp ws S r)).getD i [] = _
    rw [fold_at hi hp (lstp_st h h1) fun r h => hr r (List.mem_cons_of_mem _ h), lstp_at h h1 hi fun l hl e => (h0 l hl).2.2.2 (e ▸ hp)]
/-! led there and back -/
theorem crun_app (x : Nat → Int) (a b : List (Nat × Nat)) : crun x (a ++ b) = crun (crun x a) b := by
  unfold crun; rw [List.foldl_append]
theorem cst_twice {l : Nat × Nat} (h : l.1 ≠ l.2) (x : Nat → Int) : cst (cst x l) l = x := by
  funext i
  unfold cst
  by_cases e : i = l.1
  · rw [if_pos e, if_neg (fun z => h z.symm), if_pos rfl, e]; omega
  · rw [if_neg e, if_neg e]
theorem crun_rev : ∀ {ls : List (Nat × Nat)}, (∀ l ∈ ls, l.1 ≠ l.2) → ∀ x : Nat → Int, crun (crun x ls) ls.reverse = x
  | [], _, _ => rfl
  | l :: ls, h, x => by
    rw [List.reverse_cons, crun_app]
    show crun (crun (crun (cst x l) ls) ls.reverse) [l] = x
    rw [crun_rev fun z hz => h z (List.mem_cons_of_mem _ hz)]
    exact cst_twice (h l List.mem_cons_self) x
theorem steady_rev {ls : List (Nat × Nat)} (h : ∀ l ∈ ls, l.1 ≠ l.2) (s : SteadyX ls) : SteadyX ls.reverse := fun y i => by
  have h' : ∀ l ∈ ls.reverse, l.1 ≠ l.2 := fun l hl => h l (List.mem_reverse.mp hl)
  have e1 : crun (crun (crun y ls.reverse) ls.reverse) ls = crun y ls.reverse := by
    have := crun_rev h' (crun y ls.reverse)
    rwa [List.reverse_reverse] at this
  have e2 : crun (crun y ls.reverse) ls = y := by
    have := crun_rev h' y
    rwa [List.reverse_reverse] at this
  have z := s (crun (crun y ls.reverse) ls.reverse) i
  rw [e1, e2] at z
  omega
def bkR (r : List (Nat × Nat) × Int) : List (Nat × Nat) × Int := (r.1.reverse, r.2)
def bkRs (rs : List (List (Nat × Nat) × Int)) : List (List (Nat × Nat) × Int) := (rs.map bkR).reverse
theorem bkR_ok {bd : Int} {n : Nat} {ps : List Nat} {r : List (Nat × Nat) × Int} (h : RunX bd n ps r) : RunX bd n ps (bkR r) := by
  obtain ⟨h1, h2, h3, h4, h5, h6⟩ := h
  refine ⟨by show 1 ≤ r.1.reverse.length; rw [List.length_reverse]; exact h1, by show r.1.reverse.length ≤ 40; rw [List.length_reverse]; exact h2, fun l hl => h3 l (List.mem_reverse.mp hl), h4, h5, ?_⟩
  rcases h6 with h6 | h6
  · exact .inl h6
  · exact .inr (steady_rev (fun l hl => (h3 l hl).2.2.1) h6)
theorem bkRs_ok {bd : Int} {n : Nat} {ps : List Nat} {rs : List (List (Nat × Nat) × Int)} (h : ∀ r ∈ rs, RunX bd n ps r) : ∀ r ∈ bkRs rs, RunX bd n ps r := fun r hr => by
  obtain ⟨z, hz, rfl⟩ := List.mem_map.mp (List.mem_reverse.mp hr)
  exact bkR_ok (h z hz)
theorem bkR_twice (r : List (Nat × Nat) × Int) : bkR (bkR r) = r := by
  unfold bkR; simp
theorem bkRs_twice (rs : List (List (Nat × Nat) × Int)) : bkRs (bkRs rs) = rs := by
  unfold bkRs
  rw [List.map_reverse, List.reverse_reverse, List.map_map]
  have : (bkR ∘ bkR) = id := funext bkR_twice
  rw [this, List.map_id]
theorem bkRs_app (a b : List (List (Nat × Nat) × Int)) : bkRs (a ++ b) = bkRs b ++ bkRs a := by
  unfold bkRs; rw [List.map_append, List.reverse_append]
theorem bkRs_len (rs : List (List (Nat × Nat) × Int)) : (bkRs rs).length = rs.length := by
  unfold bkRs; rw [List.length_reverse, List.length_map]
theorem run_six {bd : Int} {n : Nat} {ps : List Nat} (hn : n ≤ 6) {r : List (Nat × Nat) × Int} (h : RunX bd n ps r) : RunX bd 6 [] r := by
  obtain ⟨h1, h2, h3, h4, h5, h6⟩ := h
  exact ⟨h1, h2, fun l hl => ⟨by have := (h3 l hl).1; omega, by have := (h3 l hl).2.1; omega, (h3 l hl).2.2.1, fun z => nomatch z⟩, h4, h5, h6⟩
theorem lpR_twice {ws : List Int} {n : Nat} {S : List (List Int)} {l : Nat × Nat} (st : StOk ws n S) (h1 : l.1 < n) (h2 : l.2 < n) (ne : l.1 ≠ l.2) : lpR ws (lpR ws S l) l = S := by
  obtain ⟨a, b⟩ := l
  have h1 : a < n := h1
  have h2 : b < n := h2
  have ne : a ≠ b := ne
  have ia := getD_mem (S := S) (k := a) (by rw [st.1]; exact h1)
  have ib := getD_mem (S := S) (k := b) (by rw [st.1]; exact h2)
  have pa := st.2 _ ia.1
  have pb := st.2 _ ib.1
  have ga : (lpR ws S (a, b)).getD a [] = rnd ws (over (S.getD a []) (S.getD b [])) := by
    unfold lpR
    rw [List.getD_eq_getElem?_getD, List.getElem?_set_self (by rw [st.1]; exact h1)]
    rfl
  have gb : (lpR ws S (a, b)).getD b [] = S.getD b [] := by
    unfold lpR
    rw [List.getD_eq_getElem?_getD, List.getElem?_set_ne ne, ← List.getD_eq_getElem?_getD]
  have oo : ∀ u v : List Int, u.length = v.length → over (over u v) v = u := by
    intro u
    induction u with
    | nil => intro v _; rfl
    | cons x u ih =>
      intro v hv
      cases v with
      | nil => cases hv
      | cons y v =>
        show (2 * y - (2 * y - x)) :: over (over u v) v = x :: u
        rw [ih v (by simpa using hv), show 2 * y - (2 * y - x) = x by omega]
  have key : rnd ws (over (rnd ws (over (S.getD a []) (S.getD b []))) (S.getD b [])) = S.getD a [] := by
    have e := rnd_over ws (over (S.getD a []) (S.getD b [])) (S.getD b [])
    rw [pb.2] at e
    rw [e, oo _ _ (by rw [pa.1, pb.1]), pa.2]
  show (lpR ws S (a, b)).set a (rnd ws (over ((lpR ws S (a, b)).getD a []) ((lpR ws S (a, b)).getD b []))) = S
  rw [ga, gb, key]
  unfold lpR
  rw [List.set_set]
  refine List.ext_getElem? fun i => ?_
  by_cases hi : a = i
  · subst hi
    rw [List.getElem?_set_self (by rw [st.1]; exact h1), ia.2]
  · rw [List.getElem?_set_ne hi]
theorem seqR_st {ws : List Int} {n : Nat} {ps : List Nat} : ∀ {ls : List (Nat × Nat)} {S : List (List Int)}, StOk ws n S → (∀ l ∈ ls, LeapOk n ps l) → StOk ws n (seqR ws S ls)
  | [], _, h, _ => h
  | l :: ls, S, h, hl => by
    have k := hl l List.mem_cons_self
    exact seqR_st (ls := ls) (lpR_st h k.1 k.2.1) fun z hz => hl z (List.mem_cons_of_mem _ hz)
theorem seqR_app (ws : List Int) (S : List (List Int)) (a b : List (Nat × Nat)) : seqR ws S (a ++ b) = seqR ws (seqR ws S a) b := by
  unfold seqR; rw [List.foldl_append]
theorem seqR_rev {ws : List Int} {n : Nat} {ps : List Nat} : ∀ {ls : List (Nat × Nat)} {S : List (List Int)}, StOk ws n S → (∀ l ∈ ls, LeapOk n ps l) → seqR ws (seqR ws S ls) ls.reverse = S
  | [], _, _, _ => rfl
  | l :: ls, S, h, hl => by
    have k := hl l List.mem_cons_self
    rw [List.reverse_cons, seqR_app]
    show seqR ws (seqR ws (seqR ws (lpR ws S l) ls) ls.reverse) [l] = S
    rw [seqR_rev (lpR_st h k.1 k.2.1) fun z hz => hl z (List.mem_cons_of_mem _ hz)]
    exact lpR_twice h k.1 k.2.1 k.2.2.1
theorem itr_comm {α : Type} (f : α → α) : ∀ (k : Nat) (x : α), itr f k (f x) = f (itr f k x)
  | 0, _ => rfl
  | k + 1, x => by
    show itr f k (f (f x)) = f (itr f k (f x))
    rw [itr_comm f k (f x)]
theorem itr_P {α : Type} {f : α → α} {P : α → Prop} (hf : ∀ x, P x → P (f x)) : ∀ (k : Nat) (x : α), P x → P (itr f k x)
  | 0, _, h => h
  | k + 1, x, h => itr_P hf k (f x) (hf x h)
theorem itr_undo {α : Type} {f g : α → α} {P : α → Prop} (hf : ∀ x, P x → P (f x)) (hg : ∀ x, P x → g (f x) = x) : ∀ (k : Nat) (x : α), P x → itr g k (itr f k x) = x
  | 0, _, _ => rfl
  | k + 1, x, h => by
    show itr g k (g (itr f k (f x))) = x
    rw [itr_comm f k x, hg _ (itr_P hf k x h)]
    exact itr_undo hf hg k x h
theorem bl_st {ws : List Int} {n : Nat} {ps : List Nat} {S : List (List Int)} {r : List (Nat × Nat) × Int} (h : StOk ws n S) (hl : ∀ l ∈ r.1, LeapOk n ps l) : StOk ws n (bl ws S r) :=
  itr_P (P := StOk ws n) (fun x hx => seqR_st hx hl) _ _ h
theorem bl_rev {ws : List Int} {n : Nat} {ps : List Nat} {S : List (List Int)} {r : List (Nat × Nat) × Int} (h : StOk ws n S) (hl : ∀ l ∈ r.1, LeapOk n ps l) : bl ws (bl ws S r) (bkR r) = S :=
  itr_undo (P := StOk ws n) (fun x hx => seqR_st hx hl) (fun x hx => seqR_rev hx hl) _ _ h
theorem bls_st {ws : List Int} {bd : Int} {n : Nat} {ps : List Nat} : ∀ {rs : List (List (Nat × Nat) × Int)} {S : List (List Int)}, StOk ws n S → (∀ r ∈ rs, RunX bd n ps r) → StOk ws n (rs.foldl (bl ws) S)
  | [], _, h, _ => h
  | r :: rs, S, h, hr => bls_st (rs := rs) (bl_st h (hr r List.mem_cons_self).2.2.1) fun z hz => hr z (List.mem_cons_of_mem _ hz)
theorem bls_rev {ws : List Int} {bd : Int} {n : Nat} {ps : List Nat} : ∀ {rs : List (List (Nat × Nat) × Int)} {S : List (List Int)}, StOk ws n S → (∀ r ∈ rs, RunX bd n ps r) → (bkRs rs).foldl (bl ws) (rs.foldl (bl ws) S) = S
  | [], _, _, _ => rfl
  | r :: rs, S, h, hr => by
    have k := (hr r List.mem_cons_self).2.2.1
    have e : bkRs (r :: rs) = bkRs rs ++ [bkR r] := by unfold bkRs; simp
    rw [e, List.foldl_append]
    show [bkR r].foldl (bl ws) ((bkRs rs).foldl (bl ws) (rs.foldl (bl ws) (bl ws S r))) = S
    rw [bls_rev (bl_st h k) fun z hz => hr z (List.mem_cons_of_mem _ hz)]
    exact bl_rev h k
theorem run_fold {bd : Int} {n : Nat} {ps : List Nat} {rs : List (List (Nat × Nat) × Int)} (h : ∀ r ∈ rs, RunX bd n ps r) : ∀ r ∈ rs, (∀ l ∈ r.1, LeapOk n ps l) ∧ 0 ≤ r.2 ∧ (r.2 ≤ 1 ∨ SteadyX r.1) := fun r hr => by
  obtain ⟨h1, h2, h3, h4, h5, h6⟩ := h r hr
  exact ⟨h3, by omega, h6.imp (fun z => by omega) id⟩
theorem stp_bl {ws : List Int} {bd : Int} {n : Nat} {ps : List Nat} {rs : List (List (Nat × Nat) × Int)} {S : List (List Int)} (h : StOk ws n S) (hr : ∀ r ∈ rs, RunX bd n ps r) : rs.foldl (stp ws n) S = rs.foldl (bl ws) S := by
  rw [fold_stp h fun r z => (hr r z).2.2.1, fold_bl h (run_fold hr)]
theorem stps_st {ws : List Int} {bd : Int} {n : Nat} {ps : List Nat} {rs : List (List (Nat × Nat) × Int)} {S : List (List Int)} (h : StOk ws n S) (hr : ∀ r ∈ rs, RunX bd n ps r) : StOk ws n (rs.foldl (stp ws n) S) := by
  rw [stp_bl h hr]; exact bls_st h hr
/-- the way back brings home -/
theorem undo {ws : List Int} {bd : Int} {n : Nat} {ps : List Nat} {rs : List (List (Nat × Nat) × Int)} {S : List (List Int)} (h : StOk ws n S) (hr : ∀ r ∈ rs, RunX bd n ps r) : (bkRs rs).foldl (stp ws n) (rs.foldl (stp ws n) S) = S := by
  rw [stp_bl (stps_st h hr) (bkRs_ok hr), stp_bl h hr, bls_rev h hr]
end K06


set_option Elab.async false
set_option linter.all false
set_option maxRecDepth 100000
set_option maxHeartbeats 4000000
namespace K06
open PySem DL
theorem revSl_tup (xs : List D) (Q : DV → Prop) : wO (revSl (.tuple xs)) Q = Q (.d (.tuple xs.reverse)) := rfl
theorem revSl_lst (xs : List D) (Q : DV → Prop) : wO (revSl (.list xs)) Q = Q (.fr xs.reverse) := rfl
def bkD (d : D) : Option D := match d with
  | .tuple [.tuple ls, .int t] => some (.tuple [.tuple ls.reverse, .int t])
  | _ => none
theorem bkD_RD (r : List (Nat × Nat) × Int) : bkD (RD r) = some (RD (bkR r)) := by
  show some (PyData.tuple [.tuple (r.1.map L).reverse, .int r.2]) = some (.tuple [.tuple (r.1.reverse.map L), .int r.2])
  rw [List.map_reverse]
theorem bkD_fm (rs : List (List (Nat × Nat) × Int)) : (rs.map RD).reverse.filterMap bkD = (bkRs rs).map RD := by
  rw [← List.map_reverse, fm_map (h := fun r => RD (bkR r)) fun r _ => bkD_RD r]
  unfold bkRs
  rw [List.map_reverse, List.map_reverse, List.map_map]
  rfl
theorem u_back_row : f_back_row.run = evF g_back_row [] false 3 b_back_row := rfl
theorem back_row_ok {rs : List (List (Nat × Nat) × Int)} (hl : rs.length ≤ 1000) (Q : DV → List D → Prop) (X) (q : Q (.fr ((bkRs rs).map RD)) []) : wF (f_back_row.run [] [.list (rs.map RD)]) Q X := by
  rw [u_back_row, rF, show env0 false 3 [] [.list (rs.map RD)] = [.val (.list (rs.map RD)), .un, .un] from rfl]
  simp only [b_back_row, rS, rE, rEs, rB, rV, rZ, rC, rI, rU, rT, rP, rQ, if_true]
  refine comp_pure bkD rfl (fun z hz => ?_) fun e6 he => ?_
  · obtain ⟨r, hr, rfl⟩ := List.mem_map.mp (List.mem_reverse.mp hz)
    simp only [RD, rS, rE, rEs, rB, rV, rZ, rC, rI, rU, rT, rP, rQ, if_true, wipeE, revSl_tup]
    exact ⟨l2, rfl⟩
  · rw [bkD_fm]
    refine ⟨by rw [List.length_map, bkRs_len]; exact Nat.le_trans hl (by decide), q⟩
theorem u_back : f_back.run = evF g_back [f_must_be_row, f_back_row] false 1 b_back := rfl
theorem back_ok {n : Nat} {ps : List Nat} (hn : n ≤ 6) {rs : List (List (Nat × Nat) × Int)} (hl : rs.length ≤ 1000) (hr : ∀ r ∈ rs, RunOk n ps r) (Q : DV → List D → Prop) (X) (q : Q (.fr ((bkRs rs).map RD)) []) : wF (f_back.run [] [.list (rs.map RD)]) Q X := by
  rw [u_back, rF, show env0 false 1 [] [.list (rs.map RD)] = [.val (.list (rs.map RD))] from rfl]
  simp only [b_back, rS, rE, rEs, rB, rV, rZ, rC, rI, rU, rT, rP, rQ, if_true]
  refine ⟨l0, rfl, rfl, must_be_row_ok (n := 6) (ps := []) (by decide) (by decide) (fun r z => run_six hn (hr r z)) _ _ ?_⟩
  refine ⟨rfl, rfl, back_row_ok hl _ _ q⟩
/-- lines alone -/
def zs (n : Nat) : List Int := List.replicate n 0
theorem zs_len (n : Nat) : (zs n).length = n := List.length_replicate
theorem rnd_zs : ∀ (n : Nat) (v : List Int), v.length = n → rnd (zs n) v = v
  | 0, [], _ => rfl
  | 0, _ :: _, h => by cases h
  | n + 1, [], h => by cases h
  | n + 1, x :: v, h => by
    show (if (0 : Int) < 0 then x.fmod 0 else x) :: rnd (zs n) v = x :: v
    rw [rnd_zs n v (by simpa using h), if_neg (by decide)]
theorem tab_st {n w : Nat} {S : List (List Int)} (h : Tab n w S) : StOk (zs w) n S := ⟨h.1, fun v hv => ⟨by rw [h.2 v hv, zs_len], rnd_zs w v (h.2 v hv)⟩⟩
theorem unit_st (n : Nat) : StOk (zs n) n (unitM n) := tab_st (unit_tab n)
/-- the table that a row makes -/
def tabR (n : Nat) (rs : List (List (Nat × Nat) × Int)) : List (List Int) := rs.foldl (stp (zs n) n) (unitM n)
def tR2 (t : Int) (d : D) : Option D := match d with
  | .tuple [.list a, .list b] => match ints? a, ints? b with
    | some u, some v => some (J (put u v t))
    | _, _ => none
  | _ => none
theorem tR2_J (t : Int) (u v : List Int) : tR2 t (.tuple [J u, J v]) = some (J (put u v t)) := by
  show (match ints? (u.map PyData.int), ints? (v.map PyData.int) with | some u, some v => some (J (put u v t)) | _, _ => none) = _
  rw [ints_J, ints_J]
theorem tstp_eq {n : Nat} {T : List (List Int)} {ls : List (Nat × Nat)} {t : Int} (hT : Tab n n T) (hl : ∀ l ∈ ls, l.1 < n ∧ l.2 < n) : List.zipWith (fun u v => put u v t) T (prodM n (chg n ls) T) = stp (zs n) n T (ls, t) := by
  have hC := chg_tab hl
  have lp : (prodM n (chg n ls) T).length = n := by unfold prodM; rw [List.length_map, hC.1]
  refine ext_D (d := []) (by rw [List.length_zipWith, hT.1, lp, (stp_tab (ws := zs n) (by rw [zs_len]; exact hT) hl).1, Nat.min_self]) fun i hi => ?_
  rw [List.length_zipWith, hT.1, lp, Nat.min_self] at hi
  unfold stp
  rw [zw_at (da := []) (db := []) (by rw [hT.1]; exact hi) (by rw [lp]; exact hi), zw_at (da := []) (db := []) (by rw [hC.1]; exact hi) (by rw [hT.1]; exact hi)]
  have lr := row_len hT hi
  rw [rnd_zs n _ (nrow_len (n := n) lr)]
  have hlen : ((prodM n (chg n ls) T).getD i []).length = n := by
    unfold prodM
    rw [getD_map (d := []) (by rw [hC.1]; exact hi), List.length_map, colsM_len]
  have e3 : (nrow T t ((chg n ls).getD i []) (T.getD i [])).length = n := nrow_len (n := n) lr
  refine ext_D (d := 0) (by rw [put_len', lr, hlen, e3, Nat.min_self]) fun k hk => ?_
  rw [put_len', lr, hlen, Nat.min_self] at hk
  unfold put nrow
  rw [zw_at (da := 0) (db := 0) (by rw [lr]; exact hk) (by rw [hlen]; exact hk), zw_at (da := 0) (db := 0) (by rw [lr]; exact hk) (by rw [List.length_map, List.length_range, lr]; exact hk), map_at (by rw [lr]; exact hk), prod_at hC.1 hi hk]
theorem tstps_tab {bd : Int} {n : Nat} {ps : List Nat} : ∀ {rs : List (List (Nat × Nat) × Int)} {T : List (List Int)}, Tab n n T → (∀ r ∈ rs, RunX bd n ps r) → Tab n n (rs.foldl (stp (zs n) n) T)
  | [], _, h, _ => h
  | r :: rs, T, h, hr => by
    have k := (hr r List.mem_cons_self).2.2.1
    refine tstps_tab (rs := rs) ?_ fun z hz => hr z (List.mem_cons_of_mem _ hz)
    have := stp_tab (ws := zs n) (r := r) (by rw [zs_len]; exact h) fun l hl => ⟨(k l hl).1, (k l hl).2.1⟩
    rw [zs_len] at this
    exact this
theorem zip_lit (C S : List (List Int)) (h : C.length = S.length) (Q : List D → Prop) : wO (zipD true [.list (C.map J), .list (S.map J)]) Q = Q (List.zipWith (fun c v => PyData.tuple [J c, J v]) C S) := zipD_MM true C S (fun _ => h) Q
theorem u_table_of_row : f_table_of_row.run = evF g_table_of_row [f_unit, f_product, f_change_of] false 11 b_table_of_row := rfl
theorem table_of_row_ok {bd : Int} {n : Nat} {ps : List Nat} (hbd : bd ≤ 9223372036854775808) (h1 : 1 ≤ n) (hn : n ≤ 100) {rs : List (List (Nat × Nat) × Int)} (hr : ∀ r ∈ rs, RunX bd n ps r) (Q : DV → List D → Prop) (X) (q : Q (.d (.list ((tabR n rs).map J))) []) : wF (f_table_of_row.run [] [.int n, .list (rs.map RD)]) Q X := by
  rw [u_table_of_row, rF, show env0 false 11 [] [.int n, .list (rs.map RD)] = [.val (.int n), .val (.list (rs.map RD)), .un, .un, .un, .un, .un, .un, .un, .un, .un] from rfl]
  simp only [b_table_of_row, rS, rE, rEs, rB, rV, rZ, rC, rI, rU, rT, rP, rQ, if_true]
  refine ⟨rfl, rfl, unit_ok hn _ _ ?_⟩
  simp only [rS, rE, rEs, rB, rV, rZ, rC, rI, rU, rT, rP, rQ, if_true]
  refine for_inv (fun xs e => ∃ (T : List (List Int)) (rest : List (List (Nat × Nat) × Int)) (s3 s4 s5 s6 : Slot), xs = rest.map RD ∧ Tab n n T ∧ (∀ r ∈ rest, RunX bd n ps r) ∧ rest.foldl (stp (zs n) n) T = tabR n rs ∧ e = [.val (.int n), .val (.list (rs.map RD)), .val (.list (T.map J)), s3, s4, s5, s6, .un, .un, .un, .un]) (fun x r e h => ?_) (fun e h => ?_) _ _ ⟨unitM n, rs, .un, .un, .un, .un, rfl, unit_tab n, hr, rfl, rfl⟩
  · obtain ⟨T, rest, s3, s4, s5, s6, hx, hT, hro, hf, rfl⟩ := h
    cases rest with
    | nil => cases hx
    | cons k rest =>
      obtain ⟨ls, t⟩ := k
      injection hx with hx1 hx2
      subst hx1 hx2
      obtain ⟨k1, k2, k3, k4, k5, k6⟩ := hro (ls, t) List.mem_cons_self
      have k2 : ls.length ≤ 40 := k2
      have k4 : 1 ≤ t := k4
      have k5 : t < bd := k5
      have hb : ∀ l ∈ ls, l.1 < n ∧ l.2 < n := fun l hl => ⟨(k3 l hl).1, (k3 l hl).2.1⟩
      have hC := chg_tab hb
      simp only [RD, rS, rE, rEs, rB, rV, rZ, rC, rI, rU, rT, rP, rQ, if_true]
      refine ⟨rfl, rfl, change_ok hn hb _ _ ?_⟩
      simp only [rS, rE, rEs, rB, rV, rZ, rC, rI, rU, rT, rP, rQ, if_true]
      refine ⟨rfl, rfl, product_ok hn h1 hC hT (chg_bd hb k2) _ _ ?_⟩
      simp only [rS, rE, rEs, rB, rV, rZ, rC, rI, rU, rT, rP, rQ, if_true]
      have lp : (prodM n (chg n ls) T).length = n := by unfold prodM; rw [List.length_map, hC.1]
      have pr_len : ∀ v ∈ prodM n (chg n ls) T, v.length = n := fun v hv => by
        unfold prodM at hv
        obtain ⟨c, _, rfl⟩ := List.mem_map.mp hv
        rw [List.length_map, colsM_len]
      have he := tstp_eq (t := t) hT hb
      generalize prodM n (chg n ls) T = P at lp pr_len he ⊢
      rw [zip_lit T P (by rw [hT.1, lp])]
      refine ⟨by rw [List.length_zipWith, hT.1]; exact Nat.le_trans (Nat.min_le_left _ _) (Nat.le_trans hn (by decide)), ?_⟩
      refine comp_pure (tR2 t) rfl (fun z hz => ?_) fun e6 he6 => ?_
      · obtain ⟨u, hu, v, hv, rfl⟩ := mem_zipWith hz
        have lu := hT.2 u hu
        have lv := pr_len v hv
        simp only [rS, rE, rEs, rB, rV, rZ, rC, rI, rU, rT, rP, rQ, if_true, wipeE]
        rw [zipD_J true u v fun _ => by rw [lu, lv]]
        refine comp_pure (on2 fun x y => .int (x + t * y)) rfl (fun z hz => ?_) fun e7 he7 => ?_
        · obtain ⟨x, _, y, _, rfl⟩ := mem_zipWith hz
          simp only [rS, rE, rEs, rB, rV, rZ, rC, rI, rU, rT, rP, rQ, if_true, wipeE]
          exact ⟨.inl (by omega), rfl⟩
        · rw [fm_on2 fun x y => x + t * y, he7]
          refine ⟨by rw [List.length_map, List.length_zipWith, lu]; exact Nat.le_trans (Nat.min_le_left _ _) (Nat.le_trans hn (by decide)), rfl, ?_⟩
          rw [tR2_J]
          rfl
      · have e : (List.zipWith (fun c v => PyData.tuple [J c, J v]) T P).filterMap (tR2 t) = (stp (zs n) n T (ls, t)).map J := by
          rw [filterMap_zip (fun c v => PyData.tuple [J c, J v]) (tR2 t) (fun c v => J (put c v t)) (fun x y => tR2_J t x y), ← he, List.map_zipWith]
        rw [e, he6]
        have hT2 : Tab n n (stp (zs n) n T (ls, t)) := by
          have := stp_tab (ws := zs n) (r := (ls, t)) (by rw [zs_len]; exact hT) hb
          rw [zs_len] at this
          exact this
        refine ⟨by rw [List.length_map, hT2.1]; exact Nat.le_trans hn (by decide), stp (zs n) n T (ls, t), rest, _, _, _, _, rfl, hT2, fun r h => hro r (List.mem_cons_of_mem _ h), hf, rfl⟩
  · obtain ⟨T, rest, s3, s4, s5, s6, hx, hT, hro, hf, rfl⟩ := h
    cases rest with
    | cons _ _ => cases hx
    | nil =>
      simp only [rS, rE, rEs, rB, rV, rZ, rC, rI, rU, rT, rP, rQ, if_true]
      rw [← hf] at q
      exact q
theorem tab_home {bd : Int} {n : Nat} {ps : List Nat} {rs : List (List (Nat × Nat) × Int)} (hr : ∀ r ∈ rs, RunX bd n ps r) : tabR n (rs ++ bkRs rs) = unitM n := by
  unfold tabR
  rw [List.foldl_append]
  exact undo (unit_st n) hr
theorem lpR_zs {n w : Nat} {S : List (List Int)} {l : Nat × Nat} (hS : Tab n w S) (h1 : l.1 < n) (h2 : l.2 < n) : lpR (zs w) S l = lp S l := by
  unfold lpR lp
  rw [rnd_zs w]
  unfold over
  rw [List.length_zipWith, row_len hS h1, row_len hS h2, Nat.min_self]
theorem seqR_zs {n w : Nat} {ps : List Nat} : ∀ {ls : List (Nat × Nat)} {S : List (List Int)}, Tab n w S → (∀ l ∈ ls, LeapOk n ps l) → seqR (zs w) S ls = places S ls
  | [], _, _, _ => rfl
  | l :: ls, S, hS, hl => by
    have k := hl l List.mem_cons_self
    show seqR (zs w) (lpR (zs w) S l) ls = places (lp S l) ls
    rw [lpR_zs hS k.1 k.2.1]
    exact seqR_zs (lp_tab hS k.1 k.2.1) fun z hz => hl z (List.mem_cons_of_mem _ hz)
end K06


set_option Elab.async false
set_option linter.all false
set_option maxRecDepth 100000
set_option maxHeartbeats 4000000
namespace K06
open PySem DL
theorem all2_intsb {α : Type} {B : Nat} : ∀ {xs : List α} {ys : List D}, All2 (fun _ y => ∃ i : Int, y = .int i ∧ i.natAbs ≤ B) xs ys → ∃ v : List Int, ys = v.map PyData.int ∧ v.length = xs.length ∧ ∀ x ∈ v, x.natAbs ≤ B
  | _, _, .nil => ⟨[], rfl, rfl, fun x h => nomatch h⟩
  | _, _, .cons ⟨i, e, hi⟩ h => by
    obtain ⟨v, e2, hl, hb⟩ := all2_intsb h
    subst e e2
    refine ⟨i :: v, rfl, congrArg (· + 1) hl, fun x hx => ?_⟩
    rcases List.mem_cons.mp hx with z | z
    · rw [z]; exact hi
    · exact hb x z
theorem all2_vecsb {α : Type} {n B : Nat} : ∀ {xs : List α} {ys : List D}, All2 (fun _ y => ∃ v : List Int, y = I v ∧ v.length = n ∧ ∀ x ∈ v, x.natAbs ≤ B) xs ys → ∃ vs : List (List Int), ys = vs.map I ∧ vs.length = xs.length ∧ ∀ v ∈ vs, v.length = n ∧ ∀ x ∈ v, x.natAbs ≤ B
  | _, _, .nil => ⟨[], rfl, rfl, fun x h => nomatch h⟩
  | _, _, .cons ⟨v, e, hv⟩ h => by
    obtain ⟨vs, e2, hl, hb⟩ := all2_vecsb h
    subst e e2
    refine ⟨v :: vs, rfl, congrArg (· + 1) hl, fun x hx => ?_⟩
    rcases List.mem_cons.mp hx with z | z
    · rw [z]; exact hv
    · exact hb x z
theorem put_bd {a b : List Int} {t : Int} {A B : Nat} (ha : ∀ x ∈ a, x.natAbs ≤ A) (hb : ∀ x ∈ b, x.natAbs ≤ B) (ht : t.natAbs ≤ 6) : ∀ x ∈ put a b t, x.natAbs ≤ A + 6 * B := fun x hx => by
  obtain ⟨u, hu, v, hv, rfl⟩ := mem_zipWith hx
  have h1 := ha u hu
  have h2 := hb v hv
  have h3 : (t * v).natAbs ≤ 6 * B := by rw [Int.natAbs_mul]; exact Nat.mul_le_mul ht h2
  omega
theorem rnd_bd {ws v : List Int} {A B : Nat} (hw : ∀ s ∈ ws, s ≤ (B : Int)) (hv : ∀ x ∈ v, x.natAbs ≤ A) : ∀ x ∈ rnd ws v, x.natAbs ≤ A + B := fun x hx => by
  obtain ⟨s, hs, y, hy, rfl⟩ := mem_zipWith hx
  have h1 := hw s hs
  have h2 := hv y hy
  split
  · rename_i h
    have f1 := Int.fmod_nonneg_of_pos y h
    have f2 := Int.fmod_lt_of_pos y h
    omega
  · omega
theorem number_okb {o : List D} (p : Pile o) (Q : DV → List D → Prop) (X) (q : ∀ n o', n.natAbs ≤ 10000000000 → Pile o' → Q (.d (.int n)) o') : wF (f__law_number.run o []) Q X := by
  obtain ⟨a, b, c, d, rfl, ha⟩ := p
  have p : Pile [.int a, .int b, .int c, .bool d] := ⟨a, b, c, d, rfl, ha⟩
  rw [u_number, rF, show env0 true 1 [.int a, .int b, .int c, .bool d] [] = [.own true [.int a, .int b, .int c, .bool d]] from rfl]
  simp only [b__law_number, rS, rE, rEs, rB, rV, rZ, rC, rI]
  have tail : ∀ {o}, Pile o → wF (f__law_take.run o [.int 13]) (fun v o' => wO (bin .sub v.fz (.int 6)) fun v => Q v o') (fun c ps o' => X c ps o') := fun {o} p => take_ok p (by decide) (by decide) _ _ fun n o1 n1 n2 p1 => by
    simp only [rB, rZ]
    exact q _ _ (by omega) p1
  cases d with
  | false =>
    simp only [rB, rZ]
    exact ⟨rfl, rfl, tail p⟩
  | true =>
    simp only [rZ]
    refine ⟨rfl, rfl, take_ok p (by decide) (by decide) _ _ fun n o1 h1 h2 p1 => ?_⟩
    simp only [rB, rV, rZ, rC, rI]
    split
    · refine ⟨rfl, rfl, great_ok p1 _ _ fun m o2 h3 h4 p2 => ?_⟩
      simp only [rB, rV, rZ, rC, rI]
      refine ⟨rfl, rfl, take_ok p2 (by decide) (by decide) _ _ fun k o3 h5 h6 p3 => ?_⟩
      simp only [rB, rV, rZ, rC, rI]
      have hk : k = 0 ∨ k = 1 := by omega
      exact ⟨.inl (by decide), .inl (by omega), q _ _ (by rcases hk with rfl | rfl <;> omega) p3⟩
    · exact ⟨rfl, rfl, tail p1⟩
theorem vector_okb {o : List D} (p : Pile o) {ws : List Int} (hw : ws.length ≤ 100) (Q : DV → List D → Prop) (X) (q : ∀ v o', v.length = ws.length → (∀ x ∈ v, x.natAbs ≤ 10000000000) → Pile o' → Q (.d (I v)) o') : wF (f__law_vector.run o [I ws]) Q X := by
  rw [u_vector, rF, show env0 true 3 o [I ws] = [.own true o, .val (I ws), .un] from rfl]
  unfold I
  simp only [b__law_vector, rS, rE, rEs, rB, rV, rZ, rC, rI, rU]
  refine ⟨rfl, wR.imp (comp_all (fun e => ∃ o x, e = [.own true o, .val (I ws), x] ∧ Pile o) (fun _ y => ∃ i : Int, y = .int i ∧ i.natAbs ≤ 10000000000) _ _ ⟨o, .un, rfl, p⟩ fun x hx e he => ?_) (fun ys e h => ?_) fun _ _ _ h => h.elim⟩
  · obtain ⟨o, x0, rfl, p⟩ := he
    simp only [rS, rE, rEs, rB, rV, rZ, rC, rI, rU, wipeE]
    refine ⟨rfl, rfl, number_okb p _ _ fun n o2 hn p2 => ?_⟩
    exact ⟨⟨o2, _, rfl, p2⟩, _, rfl, n, rfl, hn⟩
  · obtain ⟨⟨o, x0, rfl, p⟩, ha⟩ := h
    obtain ⟨v, rfl, hl, hb⟩ := all2_intsb ha
    rw [List.length_map] at hl
    exact ⟨by rw [List.length_map]; exact Nat.le_trans (by omega) (show 100 ≤ lim by decide), rfl, q v o hl hb p⟩
theorem standing_okb {o : List D} (p : Pile o) {ws : List Int} (hw : 1 ≤ ws.length) (hw2 : ws.length ≤ 100) {n : Nat} (hn : n ≤ 100) {W : Nat} (hW : ∀ s ∈ ws, s ≤ (W : Int)) (Q : DV → List D → Prop) (X) (q : ∀ (S : List (List Int)) o', S.length = n → (∀ v ∈ S, InW ws v) → (∀ v ∈ S, ∀ x ∈ v, x.natAbs ≤ 10000000000000 + W) → Pile o' → Q (.d (.tuple (S.map I))) o') :
    wF (f__law_standing.run o [I ws, .int n]) Q X := by
  rw [u_standing, rF, show env0 true 11 o [I ws, .int n] = [.own true o, .val (I ws), .val (.int n), .un, .un, .un, .un, .un, .un, .un, .un] from rfl]
  have el : ∀ Q : DV → Prop, wO (bi .len [I ws]) Q = Q (.d (.int ws.length)) := fun Q => by
    show wO (bi .len [.tuple (ws.map PyData.int)]) Q = _
    simp only [rU, List.length_map]
  simp only [b__law_standing, rS, rE, rEs, rB, rV, rZ, rC, rI, rU]
  refine ⟨rfl, rfl, vector_okb p hw2 _ _ fun st o1 hst hstb p1 => ?_⟩
  simp only [rS, rE, rEs, rB, rV, rZ, rC, rI, rU, el]
  refine ⟨rfl, rfl, take_ok p1 (by omega) (by omega) _ _ fun k o2 k1 k2 p2 => ?_⟩
  simp only [rS, rE, rEs, rB, rV, rZ, rC, rI, rU]
  refine ⟨big_of (by omega) (by omega), rfl, wR.imp (comp_all (fun e => ∃ o x, e = [.own true o, .val (I ws), .val (.int n), .val (I st), .un, .un, .un, .un, .un, .un, x] ∧ Pile o) (fun _ y => ∃ v : List Int, y = I v ∧ v.length = ws.length ∧ ∀ x ∈ v, x.natAbs ≤ 10000000000) _ _ ⟨o2, .un, rfl, p2⟩ fun x hx e he => ?_) (fun ys e h => ?_) fun _ _ _ h => h.elim⟩
  · obtain ⟨o, x0, rfl, p⟩ := he
    simp only [rS, rE, rEs, rB, rV, rZ, rC, rI, rU, wipeE]
    refine ⟨rfl, rfl, vector_okb p hw2 _ _ fun v o3 hv hvb p3 => ?_⟩
    exact ⟨⟨o3, _, rfl, p3⟩, _, rfl, v, rfl, hv, hvb⟩
  · obtain ⟨⟨o3, x0, rfl, p3⟩, ha⟩ := h
    obtain ⟨so, rfl, hso, hsv⟩ := all2_vecsb ha
    rw [rngI_len] at hso
    refine ⟨by rw [List.length_map]; exact Nat.le_trans (show so.length ≤ 1000 by omega) (by decide), ?_⟩
    rw [show putBack [Slot.own true o2, .val (I ws), .val (.int n), .val (I st), .un, .un, .un, .un, .un, .un, .un] [Slot.own true o3, .val (I ws), .val (.int n), .val (I st), .un, .un, .un, .un, .un, .un, x0] [10] = [Slot.own true o3, .val (I ws), .val (.int n), .val (I st), .un, .un, .un, .un, .un, .un, .un] from rfl]
    simp only [rS, rE, rEs, rB, rV, rZ, rC, rI, rU]
    refine ⟨rfl, rfl, take_ok p3 (by decide) (by decide) _ _ fun odd o4 d1 d2 p4 => ?_⟩
    simp only [rS, rE, rEs, rB, rV, rZ, rC, rI, rU]
    refine ⟨l0, big_of (by omega) (by omega), ?_⟩
    refine for_inv (fun r e => ∃ (o : List D) (S : List (List Int)) (x y z : Slot), e = [.own true o, .val (I ws), .val (.int n), .val (I st), .val (.list (so.map I)), .val (.int odd), .own false (S.map I), x, y, z, .un] ∧ Pile o ∧ (∀ v ∈ S, InW ws v ∧ ∀ x ∈ v, x.natAbs ≤ 10000000000000 + W) ∧ S.length + r.length = n) (fun x r e h => ?_) (fun e h => ?_) _ _ ⟨o4, [], .un, .un, .un, rfl, p4, (fun v z => nomatch z), by rw [rngI_len, List.length_nil, Nat.zero_add]; omega⟩
    · obtain ⟨o, S, x3, x4, x5, rfl, p, hS, hl⟩ := h
      simp only [rS, rE, rEs, rB, rV, rZ, rC, rI, rU]
      have end_ : ∀ {o : List D} {pl : List Int} {z : Slot}, Pile o → pl.length = ws.length → (∀ x ∈ pl, x.natAbs ≤ 10000000000000) → wF (f__law_round.run [] [I ws, I pl]) (fun v _ => (S.map I).length < lim ∧ ∃ (o' : List D) (S' : List (List Int)) (y1 y2 y3 : Slot), [Slot.own true o, .val (I ws), .val (.int n), .val (I st), .val (.list (so.map I)), .val (.int odd), .own false (S.map I ++ [v.fz]), .val x, .val (I pl), z, .un] = [Slot.own true o', .val (I ws), .val (.int n), .val (I st), .val (.list (so.map I)), .val (.int odd), .own false (S'.map I), y1, y2, y3, .un] ∧ Pile o' ∧ (∀ v ∈ S', InW ws v ∧ ∀ x ∈ v, x.natAbs ≤ 10000000000000 + W) ∧ S'.length + r.length = n) (fun c ps _ => X c ps o) := fun {o pl z} p hpl hplb => by
        refine round_ok hw2 _ _ ?_
        have hl' : S.length + (r.length + 1) = n := hl
        refine ⟨by rw [List.length_map]; show S.length < 1048576; omega, o, S ++ [rnd ws pl], _, _, _, by rw [List.map_append]; rfl, p, fun v hv => ?_, by rw [List.length_append]; simp only [List.length_cons, List.length_nil]; omega⟩
        rcases List.mem_append.mp hv with hv | hv
        · exact hS v hv
        · have : v = rnd ws pl := by simpa using hv
          rw [this]; exact ⟨rnd_in hpl, rnd_bd hW hplb⟩
      refine for_inv (fun r2 e => ∃ (o : List D) (pl : List Int) (z : Slot), e = [.own true o, .val (I ws), .val (.int n), .val (I st), .val (.list (so.map I)), .val (.int odd), .own false (S.map I), .val x, .val (I pl), z, .un] ∧ Pile o ∧ pl.length = ws.length ∧ r2.length ≤ 100 ∧ (∀ x ∈ pl, x.natAbs ≤ 10000000000 + (100 - r2.length) * 60000000000) ∧ ∀ d ∈ r2, ∃ v : List Int, d = I v ∧ v.length = ws.length ∧ ∀ x ∈ v, x.natAbs ≤ 10000000000) (fun x2 r2 e h => ?_) (fun e h => ?_) _ _ ⟨o, st, x5, rfl, p, hst, by rw [List.length_map]; omega, fun x hx => by have := hstb x hx; omega, fun d hd => ?_⟩
      · obtain ⟨o, pl, z, rfl, p, hpl, hr2, hplb, hr⟩ := h
        obtain ⟨v, rfl, hv, hvb⟩ := hr x2 List.mem_cons_self
        have hr3 : r2.length + 1 ≤ 100 := hr2
        simp only [rS, rE, rEs, rB, rV, rZ, rC, rI, rU]
        refine ⟨rfl, rfl, take_ok p (by decide) (by decide) _ _ fun a o5 a1 a2 p5 => ?_⟩
        simp only [rS, rE, rEs, rB, rV, rZ, rC, rI, rU]
        refine ⟨l3, at_any (xs := [_, _, _]) d1 d2 fun d hd => ?_⟩
        have hd' : ∃ j : Int, d = .int j ∧ 0 ≤ j ∧ j < 3 := by
          simp only [List.mem_cons, List.not_mem_nil, or_false] at hd
          rcases hd with rfl | rfl | rfl
          · exact ⟨1, rfl, by decide, by decide⟩
          · exact ⟨1, rfl, by decide, by decide⟩
          · exact ⟨2, rfl, by decide, by decide⟩
        obtain ⟨j, rfl, j1, j2⟩ := hd'
        simp only [rS, rE, rEs, rB, rV, rZ, rC, rI, rU]
        have hj : j = 0 ∨ j = 1 ∨ j = 2 := by omega
        refine ⟨.inl (by omega), rfl, rfl, put_ok (by omega) (by rcases hj with rfl | rfl | rfl <;> omega) _ _ ?_⟩
        refine ⟨o5, _, _, rfl, p5, by rw [put_len]; omega, by omega, fun y hy => ?_, fun d hd => hr d (List.mem_cons_of_mem _ hd)⟩
        have hb := put_bd hplb hvb (t := (a - 3) * j) (by rcases hj with rfl | rfl | rfl <;> omega) y hy
        have hl0 : (I v :: r2).length = r2.length + 1 := rfl
        have h0 : (100 - (r2.length + 1)) * 60000000000 + 60000000000 = (100 - r2.length) * 60000000000 := by omega
        rw [hl0] at hb
        omega
      · obtain ⟨o, pl, z, rfl, p, hpl, hr2, hplb, hr⟩ := h
        simp only [rS, rE, rEs, rB, rV, rZ, rC, rI, rU]
        split
        · refine ⟨rfl, rfl, vector_okb p hw2 _ _ fun v o5 hv hvb p5 => ?_⟩
          simp only [rS, rE, rEs, rB, rV, rZ, rC, rI, rU]
          exact ⟨rfl, rfl, end_ p5 hv fun x hx => by have := hvb x hx; omega⟩
        · exact ⟨rfl, rfl, end_ p hpl fun x hx => by have := hplb x hx; simp only [List.length_nil] at this; omega⟩
      · obtain ⟨v, hv, e⟩ := List.mem_map.mp hd
        exact ⟨v, e.symm, hsv v hv⟩
    · obtain ⟨o, S, x3, x4, x5, rfl, p, hS, hl⟩ := h
      simp only [rS, rE, rEs, rB, rV, rZ, rC, rI, rU]
      exact q S o (by simp at hl; omega) (fun v hv => (hS v hv).1) (fun v hv => (hS v hv).2) p
end K06


set_option Elab.async false
set_option linter.all false
set_option maxRecDepth 100000
set_option maxHeartbeats 4000000
namespace K06
open PySem DL
/-! a row's table applied at once is the row done -/
def ltR (ws : List Int) (S : List (List Int)) (c : List Int) : List Int := (List.range ws.length).map fun k => dot c (colJ S k)
def ltS (ws : List Int) (T S : List (List Int)) : List (List Int) := T.map fun c => rnd ws (ltR ws S c)
theorem ltR_len (ws : List Int) (S : List (List Int)) (c : List Int) : (ltR ws S c).length = ws.length := by unfold ltR; rw [List.length_map, List.length_range]
theorem over_map {α : Type} (f g : α → Int) : ∀ l : List α, over (l.map f) (l.map g) = l.map fun k => 2 * g k - f k
  | [] => rfl
  | x :: l => by
    show (2 * g x - f x) :: over (l.map f) (l.map g) = _
    rw [over_map f g l]; rfl
theorem ltR_over (ws : List Int) (S : List (List Int)) {u v : List Int} (h : u.length = v.length) : ltR ws S (over u v) = over (ltR ws S u) (ltR ws S v) := by
  unfold ltR
  rw [over_map]
  exact List.map_congr_left fun k _ => dot_over u v (colJ S k) h
theorem ltR_lp {n : Nat} {ws : List Int} {S T : List (List Int)} {l : Nat × Nat} (hT : Tab n n T) (h1 : l.1 < n) (h2 : l.2 < n) : (lp T l).map (ltR ws S) = lp (T.map (ltR ws S)) l := by
  unfold lp
  rw [List.map_set, ltR_over ws S (by rw [row_len hT h1, row_len hT h2]), getD_map (d := []) (by rw [hT.1]; exact h1), getD_map (d := []) (by rw [hT.1]; exact h2)]
theorem ltR_places {n : Nat} {ws : List Int} {ps : List Nat} {S : List (List Int)} : ∀ {ls : List (Nat × Nat)} {T : List (List Int)}, Tab n n T → (∀ l ∈ ls, LeapOk n ps l) → (places T ls).map (ltR ws S) = places (T.map (ltR ws S)) ls
  | [], _, _, _ => rfl
  | l :: ls, T, hT, hl => by
    have k := hl l List.mem_cons_self
    show (places (lp T l) ls).map (ltR ws S) = places (lp (T.map (ltR ws S)) l) ls
    rw [ltR_places (lp_tab hT k.1 k.2.1) fun z hz => hl z (List.mem_cons_of_mem _ hz), ltR_lp hT k.1 k.2.1]
theorem ltR_tab {n : Nat} {ws : List Int} {S T : List (List Int)} (hT : Tab n n T) : Tab n ws.length (T.map (ltR ws S)) := ⟨by rw [List.length_map]; exact hT.1, fun v hv => by
  obtain ⟨c, _, rfl⟩ := List.mem_map.mp hv
  exact ltR_len ws S c⟩
theorem ltR_itr {n : Nat} {ws : List Int} {ps : List Nat} {S : List (List Int)} {ls : List (Nat × Nat)} (hl : ∀ l ∈ ls, LeapOk n ps l) : ∀ (t : Nat) {T : List (List Int)}, Tab n n T → Tab n n (itr (fun S => seqR (zs n) S ls) t T) ∧ (itr (fun S => seqR (zs n) S ls) t T).map (ltR ws S) = itr (fun S => seqR (zs ws.length) S ls) t (T.map (ltR ws S))
  | 0, T, hT => ⟨hT, rfl⟩
  | t + 1, T, hT => by
    show Tab n n (itr _ t (seqR (zs n) T ls)) ∧ (itr _ t (seqR (zs n) T ls)).map (ltR ws S) = itr _ t (seqR (zs ws.length) (T.map (ltR ws S)) ls)
    rw [seqR_zs hT hl, seqR_zs (ltR_tab hT) hl, ← ltR_places hT hl]
    exact ltR_itr hl t (pl_tab hT fun l h => ⟨(hl l h).1, (hl l h).2.1⟩)
theorem ltR_fold {bd : Int} {n : Nat} {ws : List Int} {ps : List Nat} {S : List (List Int)} : ∀ {rs : List (List (Nat × Nat) × Int)} {T : List (List Int)}, Tab n n T → (∀ r ∈ rs, RunX bd n ps r) → (rs.foldl (bl (zs n)) T).map (ltR ws S) = rs.foldl (bl (zs ws.length)) (T.map (ltR ws S))
  | [], _, _, _ => rfl
  | r :: rs, T, hT, hr => by
    have k := (hr r List.mem_cons_self).2.2.1
    have z := ltR_itr (ws := ws) (S := S) k r.2.toNat hT
    show (rs.foldl (bl (zs n)) (bl (zs n) T r)).map (ltR ws S) = rs.foldl (bl (zs ws.length)) (bl (zs ws.length) (T.map (ltR ws S)) r)
    have z1 : Tab n n (bl (zs n) T r) := z.1
    have z2 : (bl (zs n) T r).map (ltR ws S) = bl (zs ws.length) (T.map (ltR ws S)) r := z.2
    rw [ltR_fold (rs := rs) z1 (fun y hy => hr y (List.mem_cons_of_mem _ hy)), z2]
theorem ltR_unit {ws : List Int} {n : Nat} {S : List (List Int)} (hS : Tab n ws.length S) : (unitM n).map (ltR ws S) = S := by
  refine ext_D (d := []) (by rw [List.length_map, (unit_tab n).1, hS.1]) fun i hi => ?_
  have hi : i < n := by rw [List.length_map, (unit_tab n).1] at hi; exact hi
  rw [getD_map (d := []) (by rw [(unit_tab n).1]; exact hi), unit_at hi]
  have lr := row_len hS hi
  refine ext_D (d := 0) (by rw [ltR_len, lr]) fun k hk => ?_
  rw [ltR_len] at hk
  unfold ltR
  rw [map_at hk, dot_unit (by rw [colJ_len]; exact hS.1), colJ_at (by rw [hS.1]; exact hi)]
theorem bl_map {bd : Int} {ws : List Int} {n : Nat} {ps : List Nat} : ∀ {rs : List (List (Nat × Nat) × Int)} {A : List (List Int)}, Tab n ws.length A → (∀ r ∈ rs, RunX bd n ps r) → rs.foldl (bl ws) (A.map (rnd ws)) = (rs.foldl (bl (zs ws.length)) A).map (rnd ws)
  | [], _, _, _ => rfl
  | r :: rs, A, hA, hr => by
    have k := (hr r List.mem_cons_self).2.2.1
    have kb : ∀ l ∈ r.1, l.1 < n ∧ l.2 < n := fun l h => ⟨(k l h).1, (k l h).2.1⟩
    have e : ∀ (t : Nat) (A : List (List Int)), Tab n ws.length A → Tab n ws.length (itr (fun S => seqR (zs ws.length) S r.1) t A) ∧ itr (fun S => seqR (zs ws.length) S r.1) t A = itr (fun S => places S r.1) t A := by
      intro t
      induction t with
      | zero => intro A hA; exact ⟨hA, rfl⟩
      | succ t ih =>
        intro A hA
        show Tab n ws.length (itr _ t (seqR (zs ws.length) A r.1)) ∧ itr _ t (seqR (zs ws.length) A r.1) = itr _ t (places A r.1)
        rw [seqR_zs hA k]
        exact ih _ (pl_tab hA kb)
    have z := e r.2.toNat A hA
    show rs.foldl (bl ws) (itr (fun S => seqR ws S r.1) r.2.toNat (A.map (rnd ws))) = (rs.foldl (bl (zs ws.length)) (itr (fun S => seqR (zs ws.length) S r.1) r.2.toNat A)).map (rnd ws)
    rw [itr_map kb _ _ hA.1, ← z.2]
    exact bl_map z.1 fun y hy => hr y (List.mem_cons_of_mem _ hy)
theorem lt_eq {bd : Int} {ws : List Int} {n : Nat} {ps : List Nat} {S : List (List Int)} (h : StOk ws n S) {rs : List (List (Nat × Nat) × Int)} (hr : ∀ r ∈ rs, RunX bd n ps r) : ltS ws (tabR n rs) S = rs.foldl (stp ws n) S := by
  have hS := st_tab h
  have e1 : ltS ws (tabR n rs) S = ((tabR n rs).map (ltR ws S)).map (rnd ws) := by unfold ltS; rw [List.map_map]; rfl
  rw [e1]
  unfold tabR
  rw [stp_bl (unit_st n) hr, ltR_fold (unit_tab n) hr, ltR_unit hS, ← bl_map hS hr, st_map h, stp_bl h hr]
/-! how great the numbers of a table get -/
theorem run_bd {bd : Int} {n : Nat} {ps : List Nat} {T : List (List Int)} {r : List (Nat × Nat) × Int} {b : Nat} (hbd : bd ≤ 9223372036854775808) (hT : Tab n n T) (hr : RunX bd n ps r) (h : Bd b T) : Bd (2 ^ 130 * b) (lstp (zs n) T r) := fun v hv x hx => by
  obtain ⟨h1, h2, h3, h4, h5, h6⟩ := hr
  have hb : ∀ l ∈ r.1, l.1 < n ∧ l.2 < n := fun l hl => ⟨(h3 l hl).1, (h3 l hl).2.1⟩
  unfold lstp at hv
  obtain ⟨u, hu, w, hw, rfl⟩ := mem_zipWith hv
  have lu := hT.2 u hu
  have lw := (pl_tab hT hb).2 w hw
  rw [rnd_zs n _ (by rw [put_len', put_len', lu, lw, Nat.min_self, Nat.min_self])] at hx
  obtain ⟨a, ha, y, hy, rfl⟩ := mem_zipWith hx
  obtain ⟨c, hc, d, hd, rfl⟩ := mem_zipWith hy
  have k1 := h u hu a ha
  have k2 := pl_bd hT hb h w hw c hc
  have k3 := h u hu d hd
  have k4 : (3 : Nat) ^ r.1.length ≤ 2 ^ 64 := Nat.le_trans (Nat.pow_le_pow_right (by decide) h2) (by decide)
  have k5 : c.natAbs ≤ 2 ^ 64 * b := Nat.le_trans k2 (Nat.mul_le_mul_right b k4)
  have k6 : (c + -1 * d).natAbs ≤ (2 ^ 64 + 1) * b := by
    have : (2 ^ 64 + 1) * b = 2 ^ 64 * b + b := by rw [Nat.add_mul, Nat.one_mul]
    omega
  have k7 : r.2.natAbs ≤ 2 ^ 63 := by
    have : (2 : Nat) ^ 63 = 9223372036854775808 := by decide
    omega
  have k8 : (r.2 * (c + -1 * d)).natAbs ≤ 2 ^ 63 * ((2 ^ 64 + 1) * b) := by rw [Int.natAbs_mul]; exact Nat.mul_le_mul k7 k6
  have k9 : b + 2 ^ 63 * ((2 ^ 64 + 1) * b) ≤ 2 ^ 130 * b := by
    rw [← Nat.mul_assoc]
    have e : b + 2 ^ 63 * (2 ^ 64 + 1) * b = (1 + 2 ^ 63 * (2 ^ 64 + 1)) * b := by rw [Nat.add_mul, Nat.one_mul]
    rw [e]
    exact Nat.mul_le_mul_right b (by decide)
  omega
theorem tabR_bd {bd : Int} {n : Nat} {ps : List Nat} (hbd : bd ≤ 9223372036854775808) : ∀ {rs : List (List (Nat × Nat) × Int)}, (∀ r ∈ rs, RunX bd n ps r) → Bd (2 ^ (130 * rs.length)) (tabR n rs) := fun {rs} hr => by
  have go : ∀ (rs : List (List (Nat × Nat) × Int)) (T : List (List Int)) (b : Nat), (∀ r ∈ rs, RunX bd n ps r) → Tab n n T → Bd b T → Bd (2 ^ (130 * rs.length) * b) (rs.foldl (stp (zs n) n) T) := by
    intro rs
    induction rs with
    | nil => intro T b _ _ h; show Bd (1 * b) T; rw [Nat.one_mul]; exact h
    | cons r rs ih =>
      intro T b hr hT h
      have q := hr r List.mem_cons_self
      have hb : ∀ l ∈ r.1, l.1 < n ∧ l.2 < n := fun l hl => ⟨(q.2.2.1 l hl).1, (q.2.2.1 l hl).2.1⟩
      have t1 : Tab n n (stp (zs n) n T r) := by
        have := stp_tab (ws := zs n) (r := r) (by rw [zs_len]; exact hT) hb
        rwa [zs_len] at this
      have k := run_bd hbd hT q h
      rw [← stp_lstp (ws := zs n) (by rw [zs_len]; exact hT) hb] at k
      have := ih _ _ (fun z hz => hr z (List.mem_cons_of_mem _ hz)) t1 k
      rw [← Nat.mul_assoc, ← Nat.pow_add] at this
      rw [List.length_cons, show 130 * (rs.length + 1) = 130 * rs.length + 130 by omega]
      exact this
  have := go rs (unitM n) 1 hr (unit_tab n) (unit_bd n)
  rw [Nat.mul_one] at this
  exact this
def Mok (x y : Int) : Prop := x.natAbs < 2 ^ 64 ∨ y.natAbs < 2 ^ 64 ∨ x.natAbs.log2 + y.natAbs.log2 < 1000000
theorem log_le {x k : Nat} (h : x ≤ 2 ^ k) : x.log2 ≤ k := by
  have h2 : x < 2 ^ (k + 1) := Nat.lt_of_le_of_lt h (Nat.pow_lt_pow_right (by decide) (by omega))
  have := PySem.Flt.log2_lt_of (show 0 < k + 1 by omega) h2
  omega
theorem mok_of {x y : Int} {a b : Nat} (hx : x.natAbs ≤ 2 ^ a) (hy : y.natAbs ≤ 2 ^ b) (h : a + b < 1000000) : Mok x y := .inr (.inr (by
  have h1 := log_le hx
  have h2 := log_le hy
  omega))
end K06


set_option Elab.async false
set_option linter.all false
set_option maxRecDepth 100000
set_option maxHeartbeats 4000000
namespace K06
open PySem DL
/-! a row done again and again, seen in one way: on lines home the second time or never -/
theorem crun_again (ls : List (Nat × Nat)) : ∀ (t : Nat) (x : Nat → Int), crun x (rep t ls) = itr (fun x => crun x ls) t x
  | 0, _ => rfl
  | t + 1, x => by
    show crun x (List.replicate (t + 1) ls).flatten = itr _ t (crun x ls)
    rw [List.replicate_succ, List.flatten_cons, crun_app]
    exact crun_again ls t (crun x ls)
theorem cst_even (x : Nat → Int) (l : Nat × Nat) (i : Nat) : 2 ∣ cst x l i - x i := by
  unfold cst
  split
  · rename_i h
    subst h
    exact ⟨x l.2 - x l.1, by omega⟩
  · exact ⟨0, by omega⟩
theorem crun_even : ∀ (ls : List (Nat × Nat)) (x : Nat → Int) (i : Nat), 2 ∣ crun x ls i - x i
  | [], x, i => ⟨0, by show x i - x i = 2 * 0; omega⟩
  | l :: ls, x, i => by
    obtain ⟨a, ha⟩ := crun_even ls (cst x l) i
    obtain ⟨b, hb⟩ := cst_even x l i
    exact ⟨a + b, by show crun (cst x l) ls i - x i = _; omega⟩
theorem crun_four (ls : List (Nat × Nat)) (y : Nat → Int) (i : Nat) : 4 ∣ crun y (ls ++ ls) i - y i := by
  have hA : ∀ k, crun y ls k = y k + 2 * ((crun y ls k - y k) / 2) := fun k => by
    obtain ⟨a, ha⟩ := crun_even ls y k
    omega
  generalize hAe : (fun k => (crun y ls k - y k) / 2) = A
  have e : crun y ls = fun k => y k + 2 * A k := by
    rw [← hAe]
    exact funext hA
  rw [crun_app]
  have e2 : crun (crun y ls) ls = fun k => crun y ls k + 2 * crun A ls k := by
    have h : crun (fun k => y k + 2 * A k) ls = _ := crun_add y (fun k => 2 * A k) ls
    rw [← e, crun_mul] at h
    exact h
  rw [e2]
  obtain ⟨b, hb⟩ := crun_even ls A i
  have e3 := congrFun e i
  exact ⟨A i + b, by dsimp only at e3 ⊢; omega⟩
def Dv (d : Int) (x : Nat → Int) : Prop := ∀ i, d ∣ x i
theorem dv_four {ls : List (Nat × Nat)} {d : Int} {x : Nat → Int} (h : Dv d x) : Dv (4 * d) (fun i => crun x (ls ++ ls) i - x i) := by
  have e : x = fun i => d * (x i / d) := funext fun i => (Int.mul_ediv_cancel' (h i)).symm
  generalize hz : (fun i => x i / d) = z at e
  have e : x = fun i => d * z i := by rw [← hz]; exact e
  intro i
  obtain ⟨c, hc⟩ := crun_four ls z i
  show 4 * d ∣ crun x (ls ++ ls) i - x i
  rw [e, crun_mul]
  exact ⟨c, by dsimp only; rw [← Int.mul_sub, hc, Int.mul_comm 4 d, Int.mul_assoc]⟩
theorem itr_end {α : Type} (f : α → α) (k : Nat) (x : α) : itr f (k + 1) x = f (itr f k x) := itr_comm f k x
theorem far_off {ls : List (Nat × Nat)} {d : Int} {x : Nat → Int} (h : Dv d fun i => crun x (ls ++ ls) i - x i) : ∀ m : Nat, ∃ e, Dv (4 * d) e ∧ ∀ i, itr (fun x => crun x (ls ++ ls)) m x i = x i + m * (crun x (ls ++ ls) i - x i) + e i
  | 0 => ⟨fun _ => 0, fun _ => ⟨0, by simp⟩, fun i => by show x i = _; simp⟩
  | m + 1 => by
    obtain ⟨e, he, hm⟩ := far_off h m
    generalize hw : (fun i => crun x (ls ++ ls) i - x i) = w at h
    have hw' : ∀ i, crun x (ls ++ ls) i - x i = w i := fun i => congrFun hw i
    have hm : itr (fun x => crun x (ls ++ ls)) m x = fun i => x i + (m * w i + e i) := funext fun i => by rw [hm i, hw']; omega
    have hu : Dv d fun i => m * w i + e i := fun i => by
      obtain ⟨a, ha⟩ := h i
      obtain ⟨b, hb⟩ := he i
      exact ⟨m * a + 4 * b, by dsimp only; rw [ha, hb, Int.mul_add, Int.mul_left_comm, Int.mul_left_comm d 4 b, Int.mul_assoc]⟩
    have hf := dv_four (ls := ls) hu
    refine ⟨fun i => e i + (crun (fun i => m * w i + e i) (ls ++ ls) i - (m * w i + e i)), fun i => Int.dvd_add (he i) (hf i), fun i => ?_⟩
    rw [itr_end, hm]
    have := congrFun (crun_add x (fun i => m * w i + e i) (ls ++ ls)) i
    dsimp only at this ⊢
    rw [this, hw']
    have h1 := hw' i
    have h2 : ((m + 1 : Nat) : Int) * w i = m * w i + w i := by rw [Int.natCast_add, Int.add_mul]; simp
    rw [h2]
    omega
theorem home_odd {ls : List (Nat × Nat)} {x : Nat → Int} {m : Nat} (hm : m = 2 ∨ m = 3 ∨ m = 5 ∨ m = 7) (h : itr (fun x => crun x (ls ++ ls)) m x = x) : crun x (ls ++ ls) = x := by
  have all : ∀ k : Nat, Dv (2 ^ k) fun i => crun x (ls ++ ls) i - x i := by
    intro k
    induction k with
    | zero => intro i; exact ⟨crun x (ls ++ ls) i - x i, by simp⟩
    | succ k ih =>
      intro i
      obtain ⟨e, he, hx⟩ := far_off ih m
      obtain ⟨a, ha⟩ := ih i
      obtain ⟨b, hb⟩ := he i
      have hx := hx i
      rw [h] at hx
      dsimp only at ha
      rw [ha, hb] at hx
      have hp : (2 : Int) ^ k ≠ 0 := by
        have : (0 : Int) < 2 ^ k := Int.pow_pos (by decide)
        omega
      have h0 : (2 : Int) ^ k * ((m : Int) * a + 4 * b) = 0 := by
        rw [Int.mul_add, Int.mul_left_comm, Int.mul_left_comm ((2 : Int) ^ k) 4 b, ← Int.mul_assoc 4]
        omega
      have h1 : (m : Int) * a + 4 * b = 0 := by
        rcases Int.mul_eq_zero.mp h0 with z | z
        · exact absurd z hp
        · exact z
      have h2 : ∃ c, a = 2 * c := by
        rcases hm with rfl | rfl | rfl | rfl
        · exact ⟨a / 2, by omega⟩
        · exact ⟨a / 2, by omega⟩
        · exact ⟨a / 2, by omega⟩
        · exact ⟨a / 2, by omega⟩
      obtain ⟨c, rfl⟩ := h2
      exact ⟨c, by dsimp only; rw [ha, Int.pow_succ, Int.mul_assoc]⟩
  funext i
  have h := all (crun x (ls ++ ls) i - x i).natAbs i
  dsimp only at h
  generalize hw : crun x (ls ++ ls) i - x i = w at h
  have hl : w.natAbs < 2 ^ w.natAbs := Nat.lt_two_pow_self
  have h0 : w = 0 := by
    obtain ⟨c, hc⟩ := h
    have e := congrArg Int.natAbs hc
    rw [Int.natAbs_mul, Int.natAbs_pow] at e
    have e2 : (2 : Int).natAbs = 2 := rfl
    rw [e2] at e
    cases hcz : c.natAbs with
    | zero => rw [hcz] at e; omega
    | succ n => rw [hcz] at e; have := Nat.le_mul_of_pos_right (2 ^ w.natAbs) (show 0 < n + 1 by omega); omega
  omega
theorem line_home {ls : List (Nat × Nat)} {x : Nat → Int} {t : Nat} (h1 : 1 ≤ t) (h8 : t ≤ 8) (h : itr (fun x => crun x ls) t x = x) : itr (fun x => crun x ls) 2 x = x := by
  have h4 : itr (fun x => crun x ls) 4 x = x → itr (fun x => crun x ls) 2 x = x := fun h => by
    have := home_odd (ls := ls) (x := x) (m := 2) (.inl rfl) (by
      show crun (crun x (ls ++ ls)) (ls ++ ls) = x
      rw [crun_app, crun_app]; exact h)
    rwa [crun_app] at this
  have N : ∀ y, crun y (ls ++ ls) = crun (crun y ls) ls := fun y => crun_app y ls ls
  have ht : t = 1 ∨ t = 2 ∨ t = 3 ∨ t = 4 ∨ t = 5 ∨ t = 6 ∨ t = 7 ∨ t = 8 := by omega
  rcases ht with rfl | rfl | rfl | rfl | rfl | rfl | rfl | rfl
  · have h : crun x ls = x := h
    show crun (crun x ls) ls = x
    rw [h, h]
  · exact h
  · have h : crun (crun (crun x ls) ls) ls = x := h
    have := home_odd (ls := ls) (x := x) (m := 3) (.inr (.inl rfl)) (by
      show crun (crun (crun x (ls ++ ls)) (ls ++ ls)) (ls ++ ls) = x
      rw [N, N, N, h, h])
    rwa [N] at this
  · exact h4 h
  · have h : crun (crun (crun (crun (crun x ls) ls) ls) ls) ls = x := h
    have := home_odd (ls := ls) (x := x) (m := 5) (.inr (.inr (.inl rfl))) (by
      show crun (crun (crun (crun (crun x (ls ++ ls)) (ls ++ ls)) (ls ++ ls)) (ls ++ ls)) (ls ++ ls) = x
      rw [N, N, N, N, N, h, h])
    rwa [N] at this
  · have h : crun (crun (crun (crun (crun (crun x ls) ls) ls) ls) ls) ls = x := h
    have := home_odd (ls := ls) (x := x) (m := 3) (.inr (.inl rfl)) (by
      show crun (crun (crun x (ls ++ ls)) (ls ++ ls)) (ls ++ ls) = x
      rw [N, N, N, h])
    rwa [N] at this
  · have h : crun (crun (crun (crun (crun (crun (crun x ls) ls) ls) ls) ls) ls) ls = x := h
    have := home_odd (ls := ls) (x := x) (m := 7) (.inr (.inr (.inr rfl))) (by
      show crun (crun (crun (crun (crun (crun (crun x (ls ++ ls)) (ls ++ ls)) (ls ++ ls)) (ls ++ ls)) (ls ++ ls)) (ls ++ ls)) (ls ++ ls) = x
      rw [N, N, N, N, N, N, N, h, h])
    rwa [N] at this
  · have h : crun (crun (crun (crun (crun (crun (crun (crun x ls) ls) ls) ls) ls) ls) ls) ls = x := h
    refine h4 ?_
    have := home_odd (ls := ls ++ ls) (x := x) (m := 2) (.inl rfl) (by
      show crun (crun x ((ls ++ ls) ++ (ls ++ ls))) ((ls ++ ls) ++ (ls ++ ls)) = x
      rw [crun_app x (ls ++ ls), crun_app _ (ls ++ ls), N, N, N, N]; exact h)
    rw [crun_app x (ls ++ ls), N, N] at this
    exact this
/-! on a ring a row leads home, and not late -/
def En (n : Nat) (s : Int) (x y : Nat → Int) : Prop := ∀ i, i < n → s ∣ x i - y i
theorem en_refl (n : Nat) (s : Int) (x : Nat → Int) : En n s x x := fun i _ => ⟨0, by omega⟩
theorem en_symm {n : Nat} {s : Int} {x y : Nat → Int} (h : En n s x y) : En n s y x := fun i hi => by
  obtain ⟨a, ha⟩ := h i hi
  exact ⟨-a, by rw [Int.mul_neg]; omega⟩
theorem en_trans {n : Nat} {s : Int} {x y z : Nat → Int} (h : En n s x y) (k : En n s y z) : En n s x z := fun i hi => by
  obtain ⟨a, ha⟩ := h i hi
  obtain ⟨b, hb⟩ := k i hi
  exact ⟨a + b, by rw [Int.mul_add]; omega⟩
theorem en_cst {n : Nat} {s : Int} {x y : Nat → Int} {l : Nat × Nat} (h1 : l.1 < n) (h2 : l.2 < n) (h : En n s x y) : En n s (cst x l) (cst y l) := fun i hi => by
  unfold cst
  split
  · obtain ⟨a, ha⟩ := h _ h1
    obtain ⟨b, hb⟩ := h _ h2
    exact ⟨2 * b - a, by rw [Int.mul_sub, Int.mul_left_comm]; omega⟩
  · exact h i hi
theorem en_crun {n : Nat} {s : Int} : ∀ {ls : List (Nat × Nat)} {x y : Nat → Int}, (∀ l ∈ ls, l.1 < n ∧ l.2 < n) → En n s x y → En n s (crun x ls) (crun y ls)
  | [], _, _, _, h => h
  | l :: ls, x, y, hl, h => en_crun (ls := ls) (fun z hz => hl z (List.mem_cons_of_mem _ hz)) (en_cst (hl l List.mem_cons_self).1 (hl l List.mem_cons_self).2 h)
theorem en_back {n : Nat} {s : Int} {ls : List (Nat × Nat)} {x y : Nat → Int} (hl : ∀ l ∈ ls, l.1 < n ∧ l.2 < n) (hn : ∀ l ∈ ls, l.1 ≠ l.2) (h : En n s (crun x ls) (crun y ls)) : En n s x y := by
  have := en_crun (ls := ls.reverse) (fun l z => hl l (List.mem_reverse.mp z)) h
  rwa [crun_rev hn, crun_rev hn] at this
theorem crun_const (c : Int) : ∀ (ls : List (Nat × Nat)) (x : Nat → Int), crun (fun i => x i + c) ls = fun i => crun x ls i + c
  | [], _ => rfl
  | l :: ls, x => by
    show crun (cst (fun i => x i + c) l) ls = fun i => crun (cst x l) ls i + c
    rw [← crun_const c ls]
    congr 1
    funext i
    unfold cst
    dsimp only
    split <;> omega
theorem pigeon : ∀ (N : Nat) (f : Nat → Nat), (∀ i, i ≤ N → f i < N) → ∃ i j, i < j ∧ j ≤ N ∧ f i = f j
  | 0, f, h => absurd (h 0 (Nat.le_refl 0)) (by omega)
  | N + 1, f, h => by
    by_cases e : ∃ i, i ≤ N ∧ f i = f (N + 1)
    · obtain ⟨i, hi, e⟩ := e
      exact ⟨i, N + 1, by omega, Nat.le_refl _, e⟩
    · have ne : ∀ i, i ≤ N → f i ≠ f (N + 1) := fun i hi z => e ⟨i, hi, z⟩
      have hN := h (N + 1) (Nat.le_refl _)
      obtain ⟨i, j, h1, h2, h3⟩ := pigeon N (fun i => if f i > f (N + 1) then f i - 1 else f i) fun i hi => by
        have a := ne i hi
        have b := h i (by omega)
        split <;> omega
      have a := ne i (by omega)
      have b := ne j h2
      refine ⟨i, j, h1, by omega, ?_⟩
      split at h3 <;> split at h3 <;> omega
/-- a number that tells the numbers' shares -/
def cdn (s : Nat) : Nat → (Nat → Int) → Nat
  | 0, _ => 0
  | n + 1, x => cdn s n x * s + (x n % (s : Int)).toNat
theorem cdn_lt {s : Nat} (hs : 0 < s) : ∀ (n : Nat) (x : Nat → Int), cdn s n x < s ^ n
  | 0, _ => Nat.one_pos
  | n + 1, x => by
    have h := cdn_lt hs n x
    have h2 : (x n % (s : Int)).toNat < s := by
      have := Int.emod_lt_of_pos (x n) (show (0 : Int) < s by omega)
      have := Int.emod_nonneg (x n) (show (s : Int) ≠ 0 by omega)
      omega
    have h3 : (cdn s n x + 1) * s ≤ s ^ n * s := Nat.mul_le_mul_right s h
    rw [Nat.add_mul, Nat.one_mul] at h3
    show cdn s n x * s + _ < s ^ n * s
    omega
theorem cdn_en {s : Nat} (hs : 0 < s) : ∀ {n : Nat} {x y : Nat → Int}, cdn s n x = cdn s n y → En n s x y
  | 0, _, _, _ => fun i hi => absurd hi (Nat.not_lt_zero i)
  | n + 1, x, y, h => by
    have b : ∀ x : Int, (x % (s : Int)).toNat < s ∧ 0 ≤ x % (s : Int) := fun x => by
      have := Int.emod_lt_of_pos x (show (0 : Int) < s by omega)
      have := Int.emod_nonneg x (show (s : Int) ≠ 0 by omega)
      omega
    have h : cdn s n x * s + (x n % (s : Int)).toNat = cdn s n y * s + (y n % (s : Int)).toNat := h
    have b1 := b (x n)
    have b2 := b (y n)
    have e1 : cdn s n x = cdn s n y := by
      have d : ∀ a r : Nat, r < s → (a * s + r) / s = a := fun a r hr => by
        rw [Nat.mul_comm, Nat.mul_add_div hs, Nat.div_eq_of_lt hr, Nat.add_zero]
      rw [← d (cdn s n x) _ b1.1, h, d _ _ b2.1]
    have e2 : x n % (s : Int) = y n % (s : Int) := by
      rw [e1] at h
      omega
    intro i hi
    by_cases hin : i = n
    · subst hin
      exact Int.dvd_of_emod_eq_zero (by rw [Int.sub_emod, e2]; simp)
    · exact cdn_en hs e1 i (by omega)
section
variable {n : Nat} {ls : List (Nat × Nat)} (hl : ∀ l ∈ ls, l.1 < n ∧ l.2 < n) (hn : ∀ l ∈ ls, l.1 ≠ l.2)
include hl in
theorem rep_lt (t : Nat) : ∀ l ∈ rep t ls, l.1 < n ∧ l.2 < n := fun l h => by
  unfold rep at h
  obtain ⟨a, h1, h2⟩ := List.mem_flatten.mp h
  rw [(List.mem_replicate.mp h1).2] at h2
  exact hl l h2
include hn in
theorem rep_ne' (t : Nat) : ∀ l ∈ rep t ls, l.1 ≠ l.2 := fun l h => by
  unfold rep at h
  obtain ⟨a, h1, h2⟩ := List.mem_flatten.mp h
  rw [(List.mem_replicate.mp h1).2] at h2
  exact hn l h2
omit hl hn in
theorem rep_add (a b : Nat) : rep (a + b) ls = rep a ls ++ rep b ls := by
  unfold rep
  rw [← List.replicate_append_replicate, List.flatten_append]
include hl hn in
theorem en_off {s : Int} {x : Nat → Int} {i j : Nat} (h : i < j) (e : En n s (crun x (rep i ls)) (crun x (rep j ls))) : En n s (crun x (rep (j - i) ls)) x := by
  have e2 : rep j ls = rep (j - i) ls ++ rep i ls := by rw [← rep_add]; congr 1; omega
  rw [e2, crun_app] at e
  exact en_symm (en_back (rep_lt hl i) (rep_ne' hn i) e)
include hl hn in
theorem home_small {s : Nat} (hs : 0 < s) (x : Nat → Int) : ∃ p, 1 ≤ p ∧ p ≤ s ^ n ∧ En n s (crun x (rep p ls)) x := by
  obtain ⟨i, j, h1, h2, h3⟩ := pigeon (s ^ n) (fun t => cdn s n (crun x (rep t ls))) fun t _ => cdn_lt hs n _
  exact ⟨j - i, by omega, by omega, en_off hl hn h1 (cdn_en hs h3)⟩
include hl hn in
theorem home_six (x : Nat → Int) : ∃ p, 1 ≤ p ∧ p ≤ 3 ^ n ∧ En n 6 (crun x (rep p ls)) x := by
  obtain ⟨p, h1, h2, h3⟩ := home_small hl hn (s := 3) (by decide) x
  refine ⟨p, h1, h2, fun i hi => ?_⟩
  obtain ⟨a, ha⟩ := h3 i hi
  obtain ⟨b, hb⟩ := crun_even (rep p ls) x i
  exact ⟨(crun x (rep p ls) i - x i) / 6, by omega⟩
/-- alike, but for a move of all -/
def Qn (n : Nat) (x y : Nat → Int) : Prop := ∃ c : Int, En n 7 x fun i => y i + c
omit hl hn in
theorem qn_of {m : Nat} {x y : Nat → Int} (h : En m 7 (fun k => x (k + 1) - x 0) fun k => y (k + 1) - y 0) : Qn (m + 1) x y := ⟨x 0 - y 0, fun i hi => by
  cases i with
  | zero => exact ⟨0, by dsimp only; omega⟩
  | succ i =>
    obtain ⟨a, ha⟩ := h i (by omega)
    exact ⟨a, by dsimp only at ha ⊢; omega⟩⟩
include hl hn in
theorem qn_back {x y : Nat → Int} (h : Qn n (crun x ls) (crun y ls)) : Qn n x y := by
  obtain ⟨c, h⟩ := h
  rw [← crun_const] at h
  exact ⟨c, en_back hl hn h⟩
include hl in
theorem en_times {c : Int} {x : Nat → Int} {p : Nat} (h : En n 7 (crun x (rep p ls)) fun i => x i + c) : ∀ m : Nat, En n 7 (crun x (rep (m * p) ls)) fun i => x i + m * c
  | 0 => by rw [Nat.zero_mul]; show En n 7 (crun x []) _; intro i _; exact ⟨0, by show x i - (x i + ((0 : Nat) : Int) * c) = _; simp⟩
  | m + 1 => by
    have ih := en_times h m
    rw [Nat.add_mul, Nat.one_mul, rep_add, crun_app]
    have := en_crun (rep_lt hl p) ih
    rw [crun_const] at this
    refine en_trans this fun i hi => ?_
    obtain ⟨a, ha⟩ := h i hi
    have h2 : ((m + 1 : Nat) : Int) * c = m * c + c := by rw [Int.natCast_add, Int.add_mul]; simp
    exact ⟨a, by dsimp only at ha ⊢; rw [h2]; omega⟩
end
theorem least_one {P : Nat → Prop} {p0 : Nat} (h1 : 1 ≤ p0) (h : P p0) : ∃ p, 1 ≤ p ∧ p ≤ p0 ∧ P p ∧ ∀ q, 1 ≤ q → q < p → ¬ P q := by
  induction p0 using Nat.strongRecOn with
  | ind p0 ih =>
    by_cases e : ∃ q, 1 ≤ q ∧ q < p0 ∧ P q
    · obtain ⟨q, a, b, c⟩ := e
      obtain ⟨p, p1, p2, p3, p4⟩ := ih q b a c
      exact ⟨p, p1, by omega, p3, p4⟩
    · exact ⟨p0, h1, Nat.le_refl _, h, fun q a b c => e ⟨q, a, b, c⟩⟩
/-- seven: what is no multiple of it has a number that brings it to one -/
theorem seven_inv {m : Nat} (h1 : 1 ≤ m) (h6 : m ≤ 6) : ∃ k : Int, 7 ∣ k * m - 1 ∧ 1 ≤ k ∧ k ≤ 6 := by
  have : m = 1 ∨ m = 2 ∨ m = 3 ∨ m = 4 ∨ m = 5 ∨ m = 6 := by omega
  rcases this with rfl | rfl | rfl | rfl | rfl | rfl
  · exact ⟨1, by decide, by decide, by decide⟩
  · exact ⟨4, by decide, by decide, by decide⟩
  · exact ⟨5, by decide, by decide, by decide⟩
  · exact ⟨2, by decide, by decide, by decide⟩
  · exact ⟨3, by decide, by decide, by decide⟩
  · exact ⟨6, by decide, by decide, by decide⟩
theorem seven_or {a b : Int} (h : 7 ∣ a * b) : 7 ∣ a ∨ 7 ∣ b := by
  obtain ⟨c, hc⟩ := h
  have ha : a = 7 * (a / 7) + a % 7 := (Int.mul_ediv_add_emod a 7).symm
  have r : a % 7 = 0 ∨ a % 7 = 1 ∨ a % 7 = 2 ∨ a % 7 = 3 ∨ a % 7 = 4 ∨ a % 7 = 5 ∨ a % 7 = 6 := by omega
  generalize a / 7 = q at ha
  rcases r with r | r | r | r | r | r | r <;> rw [r] at ha
  · exact .inl ⟨q, by omega⟩
  all_goals
    refine .inr ?_
    subst ha
    rw [Int.add_mul, Int.mul_assoc] at hc
    generalize q * b = z at hc
    exact ⟨b / 7, by omega⟩
section
variable {ls : List (Nat × Nat)} (hl : ∀ l ∈ ls, l.1 < 5 ∧ l.2 < 5) (hn : ∀ l ∈ ls, l.1 ≠ l.2)
theorem en_mul {n : Nat} {x y : Nat → Int} (k : Int) (h : En n 7 x y) : En n 7 (fun i => k * x i) (fun i => k * y i) := fun i hi => by
  obtain ⟨a, ha⟩ := h i hi
  exact ⟨k * a, by dsimp only; rw [← Int.mul_sub, ha, Int.mul_left_comm]⟩
include hl hn in
/-- all on one point -/
theorem one_point {x : Nat → Int} {t : Nat} {c : Int} (h : En 5 7 (crun x (rep t ls)) fun _ => c) : En 5 7 (crun x ls) x := by
  have k : ∀ l : List (Nat × Nat), crun (fun _ : Nat => c) l = fun _ => c := by
    intro l
    induction l with
    | nil => rfl
    | cons z l ih =>
      show crun (cst (fun _ => c) z) l = _
      have : cst (fun _ : Nat => c) z = fun _ => c := by
        funext i
        unfold cst
        dsimp only
        split <;> omega
      rw [this, ih]
  have e : En 5 7 (crun x (rep t ls)) (crun (fun _ => c) (rep t ls)) := by rw [k]; exact h
  have e := en_back (rep_lt hl t) (rep_ne' hn t) e
  have e2 := en_crun hl e
  rw [k] at e2
  exact en_trans e2 (en_symm e)
include hl hn in
theorem home_seven (x : Nat → Int) : ∃ p, 1 ≤ p ∧ p ≤ 5000 ∧ En 5 7 (crun x (rep p ls)) x := by
  have first : ∃ p, 1 ≤ p ∧ p ≤ 2401 ∧ Qn 5 (crun x (rep p ls)) x := by
    obtain ⟨i, j, h1, h2, h3⟩ := pigeon 2401 (fun t => cdn 7 4 fun k => crun x (rep t ls) (k + 1) - crun x (rep t ls) 0) fun t _ => cdn_lt (s := 7) (by decide) 4 _
    have q := qn_of (m := 4) (cdn_en (s := 7) (by decide) h3)
    obtain ⟨c, hc⟩ := q
    refine ⟨j - i, by omega, by omega, ?_⟩
    have e2 : rep j ls = rep (j - i) ls ++ rep i ls := by rw [← rep_add]; congr 1; omega
    rw [e2, crun_app, ← crun_const] at hc
    have e := en_back (rep_lt hl i) (rep_ne' hn i) hc
    refine ⟨-c, fun k hk => ?_⟩
    obtain ⟨a, ha⟩ := e k hk
    exact ⟨-a, by dsimp only at ha ⊢; omega⟩
  obtain ⟨p0, a1, a2, a3⟩ := first
  obtain ⟨p, p1, p2, ⟨c, hc⟩, least⟩ := least_one (P := fun p => Qn 5 (crun x (rep p ls)) x) a1 a3
  by_cases c0 : 7 ∣ c
  · refine ⟨p, p1, by omega, fun i hi => ?_⟩
    obtain ⟨a, ha⟩ := hc i hi
    obtain ⟨b, hb⟩ := c0
    exact ⟨a + b, by dsimp only at ha; omega⟩
  by_cases small : p ≤ 700
  · refine ⟨7 * p, by omega, by omega, fun i hi => ?_⟩
    obtain ⟨a, ha⟩ := en_times hl hc 7 i hi
    exact ⟨a + c, by dsimp only at ha; omega⟩
  obtain ⟨u, v, h1, h2, h3⟩ := pigeon 2401 (fun t => cdn 7 4 fun k => ((t % 6 + 1 : Nat) : Int) * crun x (rep (t / 6) ls) (k + 1) - ((t % 6 + 1 : Nat) : Int) * crun x (rep (t / 6) ls) 0) fun t _ => cdn_lt (s := 7) (by decide) 4 _
  have q := qn_of (m := 4) (x := fun i => ((u % 6 + 1 : Nat) : Int) * crun x (rep (u / 6) ls) i) (y := fun i => ((v % 6 + 1 : Nat) : Int) * crun x (rep (v / 6) ls) i) (cdn_en (s := 7) (by decide) h3)
  have l1 : 1 ≤ u % 6 + 1 ∧ u % 6 + 1 ≤ 6 := by omega
  have l2 : 1 ≤ v % 6 + 1 ∧ v % 6 + 1 ≤ 6 := by omega
  generalize hL : u % 6 + 1 = L at q l1
  generalize hM : v % 6 + 1 = M at q l2
  obtain ⟨d, hd⟩ := q
  by_cases same : u / 6 = v / 6
  · have ne : L ≠ M := by omega
    rw [same] at hd
    refine ⟨1, by decide, by decide, ?_⟩
    have e1 : rep 1 ls = ls := by simp [rep]
    rw [e1]
    refine one_point hl hn (t := v / 6) (c := crun x (rep (v / 6) ls) 0) fun i hi => ?_
    obtain ⟨a, ha⟩ := hd i hi
    obtain ⟨b, hb⟩ := hd 0 (by decide)
    dsimp only at ha hb
    have h : 7 ∣ ((L : Int) - M) * (crun x (rep (v / 6) ls) i - crun x (rep (v / 6) ls) 0) := by
      refine ⟨a - b, ?_⟩
      rw [Int.mul_sub, Int.sub_mul, Int.sub_mul]
      omega
    rcases seven_or h with z | z
    · exact absurd z (by omega)
    · exact z
  · have lt : u / 6 < v / 6 := by omega
    exfalso
    have e2 : rep (v / 6) ls = rep (v / 6 - u / 6) ls ++ rep (u / 6) ls := by rw [← rep_add]; congr 1; omega
    rw [e2, crun_app] at hd
    generalize hD : v / 6 - u / 6 = D at hd e2
    have hD1 : 1 ≤ D := by omega
    have hD2 : D < p := by omega
    rw [← crun_mul, ← crun_mul, ← crun_const] at hd
    have e := en_back (rep_lt hl (u / 6)) (rep_ne' hn (u / 6)) hd
    obtain ⟨k, ⟨k0, hk⟩, k1, k2⟩ := seven_inv l2.1 l2.2
    -- the row done D times leads x to k L x, moved
    have f : En 5 7 (crun x (rep D ls)) fun i => k * L * x i + (- (k * d)) := fun i hi => by
      obtain ⟨a, ha⟩ := e i hi
      have hk' : k * (M : Int) = 7 * k0 + 1 := by omega
      refine ⟨- (k0 * crun x (rep D ls) i) - k * a, ?_⟩
      dsimp only at ha ⊢
      have : k * ((L : Int) * x i) - k * (M * crun x (rep D ls) i) - k * d = 7 * (k * a) := by
        rw [← Int.mul_sub, ← Int.mul_sub, Int.mul_left_comm 7 k a]
        congr 1
        omega
      rw [← Int.mul_assoc, ← Int.mul_assoc, hk', Int.add_mul, Int.one_mul, Int.mul_assoc 7] at this
      rw [Int.mul_sub, Int.mul_neg]
      omega
    generalize hN : k * (L : Int) = N at f
    generalize - (k * d) = g at f
    by_cases n1 : 7 ∣ N - 1
    · obtain ⟨b, hb⟩ := n1
      refine least D hD1 hD2 ⟨g, fun i hi => ?_⟩
      obtain ⟨a, ha⟩ := f i hi
      refine ⟨a + b * x i, ?_⟩
      dsimp only at ha ⊢
      have : N * x i = 7 * (b * x i) + x i := by
        rw [← Int.mul_assoc, ← hb, Int.sub_mul, Int.one_mul]; omega
      omega
    · -- both ways round
      have w1 := en_crun (rep_lt hl p) f
      rw [crun_const, crun_mul, ← crun_app, ← rep_add] at w1
      have w2 := en_crun (rep_lt hl D) hc
      rw [crun_const, ← crun_app, ← rep_add, Nat.add_comm p D] at w2
      obtain ⟨b1, hb1⟩ := w1 0 (by decide)
      obtain ⟨b2, hb2⟩ := w2 0 (by decide)
      obtain ⟨b3, hb3⟩ := hc 0 (by decide)
      obtain ⟨b4, hb4⟩ := f 0 (by decide)
      dsimp only at hb1 hb2 hb3 hb4
      have h : 7 ∣ (N - 1) * c := by
        have z : N * crun x (rep p ls) 0 = N * x 0 + N * c + 7 * (N * b3) := by
          rw [Int.mul_left_comm 7 N b3, ← Int.mul_add, ← Int.mul_add]
          congr 1
          omega
        refine ⟨b2 - b1 + b4 - N * b3, ?_⟩
        rw [Int.sub_mul, Int.one_mul]
        omega
      rcases seven_or h with z | z
      · exact n1 z
      · exact c0 z
end
end K06


set_option Elab.async false
set_option linter.all false
set_option maxRecDepth 100000
set_option maxHeartbeats 4000000
namespace K06
open PySem DL
/-- the places on lines alone -/
def lnH (d : D) : Option D := match d with
  | .tuple [.int s, .int x] => if s = 0 then some (.int x) else none
  | _ => none
def lnV (ws v : List Int) : D := .tuple ((List.zipWith (fun x y => PyData.tuple [.int x, .int y]) ws v).filterMap lnH)
def lnD (ws : List Int) (d : D) : Option D := match d with
  | .tuple xs => (ints? xs).map fun v => lnV ws v
  | _ => none
theorem lnD_I (ws v : List Int) : lnD ws (I v) = some (lnV ws v) := by
  show (ints? (v.map PyData.int)).map (fun v => lnV ws v) = _
  rw [ints_J]; rfl
def lnS (ws : List Int) (S : List (List Int)) : D := .tuple (S.map (lnV ws))
theorem lay_lnV (ws v : List Int) : LayN 1 (lnV ws v) := layN_tup fun x hx => by
  obtain ⟨z, hz, e⟩ := List.mem_filterMap.mp hx
  obtain ⟨a, _, b, _, rfl⟩ := mem_zipWith hz
  have e : (if a = 0 then some (PyData.int b) else none) = some x := e
  split at e
  · have := Option.some.inj e
    rw [← this]; exact layN_int 0 b
  · cases e
theorem lay_lnS (ws : List Int) (S : List (List Int)) : LayN 2 (lnS ws S) := layN_tup fun x hx => by
  obtain ⟨v, _, rfl⟩ := List.mem_map.mp hx
  exact lay_lnV ws v
theorem u_on_lines : f_on_lines.run = evF g_on_lines [] false 5 b_on_lines := rfl
theorem on_lines_ok {ws : List Int} {n : Nat} {S : List (List Int)} (hn : n ≤ 100) (hw : ws.length ≤ 100) (hS : Tab n ws.length S) (Q : DV → List D → Prop) (X) (q : Q (.d (lnS ws S)) []) : wF (f_on_lines.run [] [I ws, SD S]) Q X := by
  rw [u_on_lines, rF, show env0 false 5 [] [I ws, SD S] = [.val (I ws), .val (.tuple (S.map I)), .un, .un, .un] from rfl]
  simp only [b_on_lines, rS, rE, rEs, rB, rV, rZ, rC, rI, rU, rT, rP, rQ, if_true]
  refine comp_pure (lnD ws) rfl (fun z hz => ?_) fun e6 he => ?_
  · obtain ⟨v, hv, rfl⟩ := List.mem_map.mp hz
    have lv := hS.2 v hv
    simp only [rS, rE, rEs, rB, rV, rZ, rC, rI, rU, rT, rP, rQ, if_true, wipeE]
    rw [zipD_I true ws v fun _ => lv.symm]
    refine comp_pure lnH rfl (fun z hz => ?_) fun e7 he7 => ?_
    · obtain ⟨x, _, y, _, rfl⟩ := mem_zipWith hz
      simp only [rS, rE, rEs, rB, rV, rZ, rC, rI, rU, rT, rP, rQ, if_true, wipeE]
      show _
      by_cases h : x = 0
      · simp only [h, decide_true, if_true]
        rfl
      · simp only [h, decide_false, Bool.false_eq_true, if_false]
        exact (by show none = (if x = 0 then some (PyData.int y) else none); rw [if_neg h])
    · refine ⟨Nat.le_trans (fm_len _ _) (by rw [List.length_zipWith]; exact Nat.le_trans (Nat.min_le_left _ _) (Nat.le_trans hw (by decide))), ?_⟩
      simp only [he7, rS, rE, rEs, rB, rV, rZ, rC, rI, rU, rT, rP, rQ, if_true]
      rw [lnD_I]
      rfl
  · rw [fm_map (f := I) (g := lnD ws) (h := lnV ws) fun v _ => lnD_I ws v]
    exact ⟨by rw [List.length_map, hS.1]; exact Nat.le_trans hn (by decide), q⟩
/-! a row as one list of leaps, done again and again: where it leads home -/
def allL (rs : List (List (Nat × Nat) × Int)) : List (Nat × Nat) := rs.flatMap fun r => rep r.2.toNat r.1
theorem itr_seqR (ws : List Int) (ls : List (Nat × Nat)) : ∀ (t : Nat) (S : List (List Int)), itr (fun S => seqR ws S ls) t S = seqR ws S (rep t ls)
  | 0, _ => rfl
  | t + 1, S => by
    show itr _ t (seqR ws S ls) = seqR ws S (List.replicate (t + 1) ls).flatten
    rw [List.replicate_succ, List.flatten_cons, seqR_app]
    exact itr_seqR ws ls t _
theorem bls_all (ws : List Int) : ∀ (rs : List (List (Nat × Nat) × Int)) (S : List (List Int)), rs.foldl (bl ws) S = seqR ws S (allL rs)
  | [], _ => rfl
  | r :: rs, S => by
    show rs.foldl (bl ws) (itr (fun S => seqR ws S r.1) r.2.toNat S) = seqR ws S (allL (r :: rs))
    rw [itr_seqR, bls_all ws rs]
    unfold allL
    rw [List.flatMap_cons, seqR_app]
theorem allL_ok {bd : Int} {n : Nat} {ps : List Nat} {rs : List (List (Nat × Nat) × Int)} (hr : ∀ r ∈ rs, RunX bd n ps r) : ∀ l ∈ allL rs, LeapOk n ps l := fun l hl => by
  obtain ⟨r, h1, h2⟩ := List.mem_flatMap.mp hl
  exact (hr r h1).2.2.1 l (rep_mem h2)
theorem allL_app (a b : List (List (Nat × Nat) × Int)) : allL (a ++ b) = allL a ++ allL b := by unfold allL; rw [List.flatMap_append]
theorem rep_ok {n : Nat} {ps : List Nat} {ls : List (Nat × Nat)} (h : ∀ l ∈ ls, LeapOk n ps l) (t : Nat) : ∀ l ∈ rep t ls, LeapOk n ps l := fun l hl => h l (rep_mem hl)
theorem led_all {bd : Int} {ws : List Int} {n : Nat} {ps : List Nat} {rs : List (List (Nat × Nat) × Int)} {S : List (List Int)} (h : StOk ws n S) (hr : ∀ r ∈ rs, RunX bd n ps r) : rs.foldl (stp ws n) S = seqR ws S (allL rs) := by rw [stp_bl h hr, bls_all]
theorem led_itr {bd : Int} {ws : List Int} {n : Nat} {ps : List Nat} {rs : List (List (Nat × Nat) × Int)} (hr : ∀ r ∈ rs, RunX bd n ps r) : ∀ (t : Nat) {S : List (List Int)}, StOk ws n S → itr (fun S => rs.foldl (stp ws n) S) t S = seqR ws S (rep t (allL rs)) ∧ StOk ws n (itr (fun S => rs.foldl (stp ws n) S) t S)
  | 0, _, h => ⟨rfl, h⟩
  | t + 1, S, h => by
    have ih := led_itr hr t (stps_st h hr)
    refine ⟨?_, ih.2⟩
    show itr _ t (rs.foldl (stp ws n) S) = seqR ws S (List.replicate (t + 1) (allL rs)).flatten
    rw [ih.1, led_all h hr, List.replicate_succ, List.flatten_cons, seqR_app]
    rfl
def rd (s a : Int) : Int := if 0 < s then a.fmod s else a
theorem rd_iff {s a b : Int} (hs : s = 0 ∨ 2 ≤ s) (hb : rd s b = b) : rd s a = b ↔ s ∣ a - b := by
  unfold rd at hb ⊢
  rcases hs with rfl | hs
  · rw [if_neg (by decide), Int.zero_dvd]
    omega
  · have h0 : 0 < s := by omega
    rw [if_pos h0] at hb ⊢
    rw [Int.fmod_eq_emod_of_nonneg _ (by omega)] at hb ⊢
    constructor
    · intro h
      refine Int.dvd_of_emod_eq_zero (Int.emod_eq_emod_iff_emod_sub_eq_zero.mp ?_)
      rw [h, hb]
    · intro h
      have := Int.emod_eq_emod_iff_emod_sub_eq_zero.mpr (Int.emod_eq_zero_of_dvd h)
      rw [this, hb]
theorem en_rnd {ws : List Int} {n i k : Nat} {A : List (List Int)} (hA : Tab n ws.length A) (hi : i < n) (hk : k < ws.length) : en (A.map (rnd ws)) k i = rd (ws.getD k 0) (en A k i) := by
  unfold en
  rw [getD_map (d := []) (by rw [hA.1]; exact hi)]
  unfold rnd
  rw [zw_at (da := 0) (db := 0) hk (by rw [row_len hA hi]; exact hk)]
  rfl
theorem en_in {ws : List Int} {n i k : Nat} {S : List (List Int)} (h : StOk ws n S) (hi : i < n) (hk : k < ws.length) : rd (ws.getD k 0) (en S k i) = en S k i := by
  rw [← en_rnd (st_tab h) hi hk, st_map h]
theorem seqR_pl {ws : List Int} {n : Nat} {ps : List Nat} {S : List (List Int)} {L : List (Nat × Nat)} (h : StOk ws n S) (hL : ∀ l ∈ L, LeapOk n ps l) : seqR ws S L = (places S L).map (rnd ws) := by
  have := seqR_map (ws := ws) (ls := L) (T := S) h.1 fun l z => ⟨(hL l z).1, (hL l z).2.1⟩
  rwa [st_map h] at this
theorem en_seqR {ws : List Int} {n i k : Nat} {ps : List Nat} {S : List (List Int)} {L : List (Nat × Nat)} (h : StOk ws n S) (hL : ∀ l ∈ L, LeapOk n ps l) (hi : i < n) (hk : k < ws.length) : en (seqR ws S L) k i = rd (ws.getD k 0) (crun (en S k) L i) := by
  have hlt : ∀ l ∈ L, l.1 < n ∧ l.2 < n := fun l z => ⟨(hL l z).1, (hL l z).2.1⟩
  rw [seqR_pl h hL, en_rnd (pl_tab (st_tab h) hlt) hi hk, en_run hk L S (st_tab h) hlt]
def Home (ws : List Int) (n : Nat) (S : List (List Int)) (L : List (Nat × Nat)) : Prop := ∀ k, k < ws.length → En n (ws.getD k 0) (crun (en S k) L) (en S k)
def HomeL (ws : List Int) (n : Nat) (S : List (List Int)) (L : List (Nat × Nat)) : Prop := ∀ k, k < ws.length → ws.getD k 0 = 0 → En n 0 (crun (en S k) L) (en S k)
theorem ways_at {ws : List Int} (hw : Ways ws) {k : Nat} (hk : k < ws.length) : ws.getD k 0 = 0 ∨ 2 ≤ ws.getD k 0 := by
  refine hw _ ?_
  rw [List.getD_eq_getElem?_getD, List.getElem?_eq_getElem hk]
  exact List.getElem_mem _
theorem home_iff {ws : List Int} {n : Nat} {ps : List Nat} {S : List (List Int)} {L : List (Nat × Nat)} (hw : Ways ws) (h : StOk ws n S) (hL : ∀ l ∈ L, LeapOk n ps l) : seqR ws S L = S ↔ Home ws n S L := by
  constructor
  · intro e k hk i hi
    have := en_seqR h hL hi hk
    rw [e] at this
    exact (rd_iff (ways_at hw hk) (en_in h hi hk)).mp this.symm
  · intro q
    refine en_ext (st_tab (seqR_st h hL)) (st_tab h) fun i hi k hk => ?_
    rw [en_seqR h hL hi hk]
    exact (rd_iff (ways_at hw hk) (en_in h hi hk)).mpr (q k hk i hi)
theorem lnL_iff : ∀ (ws u v : List Int), u.length = ws.length → v.length = ws.length → ((List.zipWith (fun x y => PyData.tuple [.int x, .int y]) ws u).filterMap lnH = (List.zipWith (fun x y => PyData.tuple [.int x, .int y]) ws v).filterMap lnH ↔ ∀ k, k < ws.length → ws.getD k 0 = 0 → u.getD k 0 = v.getD k 0)
  | [], [], [], _, _ => ⟨fun _ k h => absurd h (Nat.not_lt_zero k), fun _ => rfl⟩
  | [], _ :: _, _, h, _ => by cases h
  | [], [], _ :: _, _, h => by cases h
  | _ :: _, [], _, h, _ => by cases h
  | _ :: _, _ :: _, [], _, h => by cases h
  | s :: ws, x :: u, y :: v, hu, hv => by
    have ih := lnL_iff ws u v (by simpa using hu) (by simpa using hv)
    rw [List.zipWith_cons_cons, List.zipWith_cons_cons, List.filterMap_cons, List.filterMap_cons]
    have e : ∀ x : Int, lnH (.tuple [.int s, .int x]) = if s = 0 then some (.int x) else none := fun _ => rfl
    rw [e, e]
    by_cases h : s = 0
    · rw [if_pos h, if_pos h]
      dsimp only
      constructor
      · intro q k hk hz
        injection q with q1 q2
        cases k with
        | zero => injection q1
        | succ k => exact ih.mp q2 k (by simpa using hk) hz
      · intro q
        have q0 : x = y := q 0 (by simp) h
        rw [q0, ih.mpr fun k hk hz => q (k + 1) (by simpa using hk) hz]
    · rw [if_neg h, if_neg h]
      dsimp only
      rw [ih]
      constructor
      · intro q k hk hz
        cases k with
        | zero => exact absurd hz h
        | succ k => exact q k (by simpa using hk) hz
      · intro q k hk hz
        exact q (k + 1) (by simpa using hk) hz
theorem homeL_iff {ws : List Int} {n : Nat} {ps : List Nat} {S : List (List Int)} {L : List (Nat × Nat)} (h : StOk ws n S) (hL : ∀ l ∈ L, LeapOk n ps l) : lnS ws (seqR ws S L) = lnS ws S ↔ HomeL ws n S L := by
  have hS := st_tab h
  have hT := st_tab (seqR_st h hL)
  have z : ∀ a b : Int, rd 0 a = b ↔ (0 : Int) ∣ a - b := fun a b => by
    rw [Int.zero_dvd]
    show a = b ↔ _
    omega
  constructor
  · intro e k hk hz i hi
    have e : PyData.tuple ((seqR ws S L).map (lnV ws)) = .tuple (S.map (lnV ws)) := e
    injection e with e
    have e := congrArg (fun l => l.getD i PyData.none) e
    have e : ((seqR ws S L).map (lnV ws)).getD i PyData.none = (S.map (lnV ws)).getD i PyData.none := e
    rw [getD_map (d := []) (by rw [hT.1]; exact hi), getD_map (d := []) (by rw [hS.1]; exact hi)] at e
    unfold lnV at e
    injection e with e
    have := (lnL_iff ws _ _ (row_len hT hi) (row_len hS hi)).mp e k hk hz
    have q := en_seqR h hL hi hk
    rw [hz] at q
    exact (z _ _).mp (q.symm.trans this)
  · intro q
    unfold lnS
    congr 1
    refine ext_D (d := PyData.none) (by rw [List.length_map, List.length_map, hT.1, hS.1]) fun i hi => ?_
    have hi : i < n := by rw [List.length_map, hT.1] at hi; exact hi
    rw [getD_map (d := []) (by rw [hT.1]; exact hi), getD_map (d := []) (by rw [hS.1]; exact hi)]
    unfold lnV
    rw [(lnL_iff ws _ _ (row_len hT hi) (row_len hS hi)).mpr fun k hk hz => ?_]
    have e := en_seqR h hL hi hk
    rw [hz] at e
    exact e.trans ((z _ _).mpr (q k hk hz i hi))
end K06


set_option Elab.async false
set_option linter.all false
set_option maxRecDepth 100000
set_option maxHeartbeats 4000000
namespace K06
open PySem DL
theorem zipD_JS (c : List Int) (S : List (List Int)) (h : c.length = S.length) (Q : List D → Prop) : wO (zipD true [J c, SD S]) Q = Q (List.zipWith (fun x v => PyData.tuple [.int x, I v]) c S) := by
  have e : zipD true [J c, SD S] = if true = true → (c.map PyData.int).length = (S.map I).length then some (zipAll [c.map PyData.int, S.map I]) else none := rfl
  rw [e, if_pos (by simpa using h), wO_some]
  have : zipAll [c.map PyData.int, S.map I] = List.zipWith (fun x v => PyData.tuple [.int x, I v]) c S := by
    show ((c.map PyData.int).zip (S.map I)).map (fun p => PyData.tuple [p.1, p.2]) = _
    clear e h
    induction c generalizing S with
    | nil => rfl
    | cons x a ih => cases S with
      | nil => rfl
      | cons y b => simp only [List.map_cons, List.zip_cons_cons, List.zipWith_cons_cons]; rw [ih]
  rw [this]
def p1 (k : Nat) (d : D) : Option D := match d with
  | .tuple [.int x, .tuple vs] => match vs[k]? with
    | some (.int y) => some (.int (x * y))
    | _ => none
  | _ => none
theorem p1_I {v : List Int} {k : Nat} (x : Int) (h : k < v.length) : p1 k (.tuple [.int x, I v]) = some (.int (x * v.getD k 0)) := by
  show (match (v.map PyData.int)[k]? with | some (.int y) => some (PyData.int (x * y)) | _ => none) = _
  have : (v.map PyData.int)[k]? = some (.int (v.getD k 0)) := pc2_J h
  rw [this]
theorem p1_fm {k : Nat} : ∀ (c : List Int) (S : List (List Int)), (∀ v ∈ S, k < v.length) → (List.zipWith (fun x v => PyData.tuple [.int x, I v]) c S).filterMap (p1 k) = (List.zipWith (fun x y => x * y) c (colJ S k)).map PyData.int
  | [], _, _ => rfl
  | _ :: _, [], _ => rfl
  | x :: c, v :: S, h => by
    rw [List.zipWith_cons_cons, List.filterMap_cons, p1_I x (h v List.mem_cons_self)]
    show PyData.int (x * v.getD k 0) :: _ = _
    rw [p1_fm c S fun v hv => h v (List.mem_cons_of_mem _ hv)]
    rfl
def sumK (c : List Int) (S : List (List Int)) (d : D) : Option D := match d with
  | .int k => some (.int (dot c (colJ S k.toNat)))
  | _ => none
theorem u_led_by_table : f_led_by_table.run = evF g_led_by_table [f_round_about] false 9 b_led_by_table := rfl
theorem led_by_table_ok {ws : List Int} {n : Nat} {T S : List (List Int)} (hn : n ≤ 100) (hw : ws.length ≤ 100) (hT : Tab n n T) (hS : Tab n ws.length S) (hb : ∀ c ∈ T, ∀ x ∈ c, ∀ v ∈ S, ∀ y ∈ v, Mok x y) (Q : DV → List D → Prop) (X) (q : Q (.d (SD (ltS ws T S))) []) : wF (f_led_by_table.run [] [I ws, .list (T.map J), SD S]) Q X := by
  rw [u_led_by_table, rF, show env0 false 9 [] [I ws, .list (T.map J), SD S] = [.val (I ws), .val (.list (T.map J)), .val (SD S), .un, .un, .un, .un, .un, .un] from rfl]
  simp only [b_led_by_table, rS, rE, rEs, rB, rV, rZ, rC, rI, rU, rT, rP, rQ, if_true]
  refine ⟨l0, ?_⟩
  refine for_inv (fun xs e => ∃ (pre rest : List (List Int)) (s4 s5 : Slot), T = pre ++ rest ∧ xs = rest.map J ∧ e = [.val (I ws), .val (.list (T.map J)), .val (SD S), .own false ((ltS ws pre S).map I), s4, s5, .un, .un, .un]) (fun x r e h => ?_) (fun e h => ?_) _ _ ⟨[], T, .un, .un, rfl, rfl, rfl⟩
  · obtain ⟨pre, rest, s4, s5, hr, hx, rfl⟩ := h
    cases rest with
    | nil => cases hx
    | cons c rest =>
      injection hx with hx1 hx2
      subst hx1 hx2
      have hc : c ∈ T := by rw [hr]; exact List.mem_append_right _ List.mem_cons_self
      have lc := hT.2 c hc
      have hpl : pre.length ≤ 100 := by
        have := congrArg List.length hr
        rw [hT.1, List.length_append] at this
        omega
      have el : ∀ Q : DV → Prop, wO (bi .len [I ws]) Q = Q (.d (.int ws.length)) := fun Q => by
        show wO (bi .len [.tuple (ws.map PyData.int)]) Q = _
        simp only [rU, List.length_map]
      simp only [rS, rE, rEs, rB, rV, rZ, rC, rI, rU, rT, rP, rQ, if_true, el]
      rw [Int.toNat_natCast, rng0]
      refine ⟨big_of (by omega) (by omega), comp_pure (sumK c S) rfl (fun z hz => ?_) fun e6 he => ?_⟩
      · obtain ⟨k, hk, rfl⟩ := List.mem_map.mp hz
        have hk := List.mem_range.mp hk
        simp only [ni, rS, rE, rEs, rB, rV, rZ, rC, rI, rU, rT, rP, rQ, if_true, wipeE]
        rw [zipD_JS c S (by rw [lc, hS.1])]
        refine comp_pure (p1 k) rfl (fun z hz => ?_) fun e7 he7 => ?_
        · obtain ⟨x, hx, v, hv, rfl⟩ := mem_zipWith hz
          have lv := hS.2 v hv
          simp only [I, rS, rE, rEs, rB, rV, rZ, rC, rI, rU, rT, rP, rQ, if_true, wipeE]
          rw [at_nat (j := k) (d := .int (v.getD k 0)) rfl (pc2_J (by omega))]
          simp only [rS, rE, rEs, rB, rV, rZ, rC, rI, rU, rT, rP, rQ, if_true]
          refine ⟨hb c hc x hx v hv _ ?_, (p1_I x (by omega)).symm⟩
          rw [List.getD_eq_getElem?_getD, List.getElem?_eq_getElem (by omega)]
          exact List.getElem_mem _
        · rw [p1_fm c S fun v hv => by rw [hS.2 v hv]; exact hk]
          refine ⟨by rw [List.length_map, List.length_zipWith, lc]; exact Nat.le_trans (Nat.min_le_left _ _) (Nat.le_trans hn (by decide)), ?_⟩
          simp only [he7, rS, rE, rEs, rB, rV, rZ, rC, rI, rU, rT, rP, rQ, if_true, sum_ints]
          rfl
      · have e : ((List.range ws.length).map ni).filterMap (sumK c S) = (ltR ws S c).map PyData.int := by
          rw [fm_map (h := fun k => PyData.int (dot c (colJ S k))) fun k _ => by
            show some (PyData.int (dot c (colJ S ((k : Int).toNat)))) = _
            rw [Int.toNat_natCast]]
          unfold ltR
          rw [List.map_map]
          rfl
        have ll : (ltR ws S c).length = ws.length := by unfold ltR; rw [List.length_map, List.length_range]
        rw [e]
        refine ⟨by rw [List.length_map, ll]; exact Nat.le_trans hw (by decide), ?_⟩
        simp only [he, rS, rE, rEs, rB, rV, rZ, rC, rI, rU, rT, rP, rQ, if_true]
        refine ⟨rfl, rfl, round_about_ok hw ll true _ _ ?_⟩
        simp only [rS, rE, rEs, rB, rV, rZ, rC, rI, rU, rT, rP, rQ, if_true]
        refine ⟨by rw [List.length_map]; unfold ltS; rw [List.length_map]; exact Nat.lt_of_le_of_lt hpl (by decide), pre ++ [c], rest, .val (J c), .val (.list ((ltR ws S c).map PyData.int)), by rw [hr, List.append_assoc]; rfl, rfl, ?_⟩
        unfold ltS
        rw [List.map_append, List.map_append]
        rfl
  · obtain ⟨pre, rest, s4, s5, hr, hx, rfl⟩ := h
    cases rest with
    | cons _ _ => cases hx
    | nil =>
      rw [List.append_nil] at hr
      simp only [rS, rE, rEs, rB, rV, rZ, rC, rI, rU, rT, rP, rQ, if_true]
      rw [← hr]
      exact q
theorem lt_unit {ws : List Int} {n : Nat} {S : List (List Int)} (h : StOk ws n S) : ltS ws (unitM n) S = S := by
  have hS := st_tab h
  refine ext_D (d := []) (by unfold ltS; rw [List.length_map, (unit_tab n).1, hS.1]) fun i hi => ?_
  have hi : i < n := by unfold ltS at hi; rw [List.length_map, (unit_tab n).1] at hi; exact hi
  unfold ltS
  rw [getD_map (d := []) (by rw [(unit_tab n).1]; exact hi), unit_at hi]
  have lr := row_len hS hi
  have e : ltR ws S ((List.range n).map fun j => if i = j then 1 else 0) = S.getD i [] := by
    refine ext_D (d := 0) (by unfold ltR; rw [List.length_map, List.length_range, lr]) fun k hk => ?_
    have hk : k < ws.length := by unfold ltR at hk; rw [List.length_map, List.length_range] at hk; exact hk
    unfold ltR
    rw [map_at hk, dot_unit (by rw [colJ_len]; exact hS.1), colJ_at (by rw [hS.1]; exact hi)]
  rw [e]
  exact (h.2 _ (getD_mem (by rw [hS.1]; exact hi)).1).2
theorem unit_mok {n : Nat} : ∀ c ∈ unitM n, ∀ x ∈ c, x.natAbs < 2 ^ 64 := fun c hc x hx => by
  have := unit_bd n c hc x hx
  have h : (1 : Nat) < 2 ^ 64 := by decide
  omega
theorem u_again : f_again.run = fun o xs => f0_again.run o (xs ++ [.int 10000]) := rfl
theorem again_home {ws : List Int} {n : Nat} {ps : List Nat} {S : List (List Int)} (y : YardOk ws n ps) (st : StOk ws n S) (h2 : 2 ≤ n) (hn : n ≤ 6) (hw : ws.length ≤ 100) {rs : List (List (Nat × Nat) × Int)} (hr : ∀ r ∈ rs, RunOk n ps r) (h1 : rs.foldl (stp ws n) S = S) (ht : tabR n rs = unitM n) (Q : DV → List D → Prop) (X)
    (q : Q (.d (.int 1)) []) : wF (f_again.run [] [Y ws n ps, SD S, .list (rs.map RD)]) Q X := by
  rw [u_again]
  show wF (evF g_again [f_must_be_yard, f_must_be_standing, f_must_be_row, f_is_whole, f_table_of_row, f_run_through, f_on_lines, f_led_by_table] false 8 b_again [] [Y ws n ps, SD S, .list (rs.map RD), .int 10000]) Q X
  rw [rF, show env0 false 8 [] [Y ws n ps, SD S, .list (rs.map RD), .int 10000] = [.val (.tuple [I ws, .int n, NN ps]), .val (SD S), .val (.list (rs.map RD)), .val (.int 10000), .un, .un, .un, .un] from rfl]
  simp only [b_again, g_again, rS, rE, rEs, rB, rV, rZ, rC, rI, rU, rT, rP, rQ, if_true]
  refine ⟨rfl, rfl, must_be_yard_ok y _ _ ?_⟩
  refine ⟨rfl, rfl, must_be_standing_ok y st _ _ ?_⟩
  refine ⟨rfl, rfl, must_be_row_ok h2 hn hr _ _ ?_⟩
  refine ⟨rfl, rfl, whole_ok 10000 _ _ ?_⟩
  simp only [rS, rE, rEs, rB, rV, rZ, rC, rI, rU, rT, rP, rQ, if_true, List.getElem?_cons_zero, wO_some, Int.reduceLE, decide_true, Bool.not_true, Bool.false_eq_true, if_false]
  refine ⟨rfl, rfl, table_of_row_ok (ps := ps) (by decide) (by omega) (by omega) hr _ _ ?_⟩
  rw [ht]
  simp only [rS, rE, rEs, rB, rV, rZ, rC, rI, rU, rT, rP, rQ, if_true]
  refine ⟨rfl, rfl, run_through_ok (ps := ps) (by omega) hw (st_tab st) hr _ _ ?_⟩
  rw [h1]
  simp only [rS, rE, rEs, rB, rV, rZ, rC, rI, rU, rT, rP, rQ, if_true]
  refine ⟨rfl, rfl, run_through_ok (ps := ps) (by omega) hw (st_tab st) hr _ _ ?_⟩
  rw [h1]
  simp only [rS, rE, rEs, rB, rV, rZ, rC, rI, rU, rT, rP, rQ, if_true]
  refine ⟨rfl, rfl, on_lines_ok (by omega) hw (st_tab st) _ _ ?_⟩
  simp only [rS, rE, rEs, rB, rV, rZ, rC, rI, rU, rT, rP, rQ, if_true]
  refine ⟨rfl, rfl, on_lines_ok (by omega) hw (st_tab st) _ _ ?_⟩
  simp only [rS, rE, rEs, rB, rV, rZ, rC, rI, rU, rT, rP, rQ, if_true, cmp_ne_self (lay_lnS ws S) (show 2 ≤ 64 by decide), Bool.false_eq_true, if_false]
  refine ⟨by decide, ?_⟩
  have eR : rngI 1 ((10000 : Int) + 1 - 1).toNat = PyData.int 1 :: rngI 2 9999 := rfl
  rw [eR]
  refine for_inv (fun xs e => xs = PyData.int 1 :: rngI 2 9999 ∧ e = [.val (.tuple [I ws, .int n, NN ps]), .val (SD S), .val (.list (rs.map RD)), .val (.int 10000), .val (.list ((unitM n).map J)), .val (SD S), .val (SD S), .un]) (fun x r e h => ?_) (fun e h => nomatch h.1) _ _ ⟨rfl, rfl⟩
  obtain ⟨hx, rfl⟩ := h
  injection hx with hx1 hx2
  subst hx1
  simp only [rS, rE, rEs, rB, rV, rZ, rC, rI, rU, rT, rP, rQ, if_true]
  refine ⟨rfl, rfl, led_by_table_ok (by omega) hw (unit_tab n) (st_tab st) (fun c hc x hx v hv y hy => .inl (unit_mok c hc x hx)) _ _ ?_⟩
  rw [lt_unit st]
  simp only [rS, rE, rEs, rB, rV, rZ, rC, rI, rU, rT, rP, rQ, if_true, cmp_eq_self (lay_SD S) (show 2 ≤ 64 by decide)]
  exact q
/-! == of standings -/
theorem eqvAll_int : ∀ v w : List Int, PyData.eqvAll (v.map PyData.int) (w.map PyData.int) = decide (v = w)
  | [], [] => rfl
  | [], _ :: _ => by simp [PyData.eqvAll]
  | _ :: _, [] => by simp [PyData.eqvAll]
  | x :: v, y :: w => by
    rw [List.map_cons, List.map_cons]
    simp only [PyData.eqvAll, PyData.eqv, eqvAll_int v w, List.cons.injEq]
    by_cases h : x = y
    · subst h; simp
    · simp [h]
theorem eqvAll_SD : ∀ v w : List (List Int), PyData.eqvAll (v.map I) (w.map I) = decide (v = w)
  | [], [] => rfl
  | [], _ :: _ => by simp [PyData.eqvAll]
  | _ :: _, [] => by simp [PyData.eqvAll]
  | x :: v, y :: w => by
    rw [List.map_cons, List.map_cons]
    have e : PyData.eqv (I x) (I y) = decide (x = y) := by
      unfold I
      simp only [PyData.eqv, eqvAll_int]
    simp only [PyData.eqvAll, e, eqvAll_SD v w, List.cons.injEq]
    by_cases h : x = y
    · subst h; simp
    · simp [h]
theorem cmp_eq_SD (v w : List (List Int)) (Q : Bool → Prop) : wO (cmp .eq (SD v) (SD w)) Q = Q (decide (v = w)) := by
  show wO (if lay (SD v) && lay (SD w) then some (PyData.eqv (SD v) (SD w)) else none) Q = _
  rw [(lay_SD v).lay (by decide), (lay_SD w).lay (by decide), Bool.and_self, if_pos rfl, wO_some]
  unfold SD
  simp only [PyData.eqv, eqvAll_SD]
theorem cmp_ne_SD (v w : List (List Int)) (Q : Bool → Prop) : wO (cmp .ne (SD v) (SD w)) Q = Q (!decide (v = w)) := by
  show wO (if lay (SD v) && lay (SD w) then some (!PyData.eqv (SD v) (SD w)) else none) Q = _
  rw [(lay_SD v).lay (by decide), (lay_SD w).lay (by decide), Bool.and_self, if_pos rfl, wO_some]
  unfold SD
  simp only [PyData.eqv, eqvAll_SD]
def lnI : List Int → List Int → List Int
  | s :: ws, x :: v => if s = 0 then x :: lnI ws v else lnI ws v
  | _, _ => []
theorem lnI_eq : ∀ ws v : List Int, (List.zipWith (fun x y => PyData.tuple [.int x, .int y]) ws v).filterMap lnH = (lnI ws v).map PyData.int
  | [], _ => by simp [lnI]
  | _ :: _, [] => by simp [lnI]
  | s :: ws, x :: v => by
    rw [List.zipWith_cons_cons, List.filterMap_cons, show lnH (.tuple [.int s, .int x]) = if s = 0 then some (.int x) else none from rfl]
    unfold lnI
    by_cases h : s = 0
    · rw [if_pos h, if_pos h]; dsimp only; rw [lnI_eq ws v]; rfl
    · rw [if_neg h, if_neg h]; dsimp only; rw [lnI_eq ws v]
theorem lnS_SD (ws : List Int) (S : List (List Int)) : lnS ws S = SD (S.map (lnI ws)) := by
  unfold lnS SD
  rw [List.map_map]
  congr 1
  refine List.map_congr_left fun v _ => ?_
  unfold lnV
  rw [lnI_eq]
  rfl
theorem rngI_head : ∀ (a : Int) (n : Nat), rngI a (n + 1) = PyData.int a :: rngI (a + 1) n := fun _ _ => rfl
theorem again_ok {ws : List Int} {n : Nat} {ps : List Nat} {S : List (List Int)} (y : YardOk ws n ps) (st : StOk ws n S) (h2 : 2 ≤ n) (hn : n ≤ 6) (hw : ws.length ≤ 100) {rs : List (List (Nat × Nat) × Int)} (hr : ∀ r ∈ rs, RunOk n ps r) (Q : DV → List D → Prop) (X)
    (qN : lnS ws (rs.foldl (stp ws n) (rs.foldl (stp ws n) S)) ≠ lnS ws S → Q (.d .none) [])
    (qS : lnS ws (rs.foldl (stp ws n) (rs.foldl (stp ws n) S)) = lnS ws S → ∃ p b : Nat, 1 ≤ p ∧ p ≤ 10000 ∧ itr (fun S => rs.foldl (stp ws n) S) p S = S ∧ (∀ q, 1 ≤ q → q < p → itr (fun S => rs.foldl (stp ws n) S) q S ≠ S) ∧ (∀ t, t < p → ∀ v ∈ itr (fun S => rs.foldl (stp ws n) S) t S, ∀ y ∈ v, y.natAbs ≤ 2 ^ b) ∧ 130 * rs.length + b < 1000000 ∧ Q (.d (.int p)) []) :
    wF (f_again.run [] [Y ws n ps, SD S, .list (rs.map RD)]) Q X := by
  rw [u_again]
  show wF (evF g_again [f_must_be_yard, f_must_be_standing, f_must_be_row, f_is_whole, f_table_of_row, f_run_through, f_on_lines, f_led_by_table] false 8 b_again [] [Y ws n ps, SD S, .list (rs.map RD), .int 10000]) Q X
  have s1 := stps_st st hr
  have s2 := stps_st s1 hr
  rw [rF, show env0 false 8 [] [Y ws n ps, SD S, .list (rs.map RD), .int 10000] = [.val (.tuple [I ws, .int n, NN ps]), .val (SD S), .val (.list (rs.map RD)), .val (.int 10000), .un, .un, .un, .un] from rfl]
  simp only [b_again, g_again, rS, rE, rEs, rB, rV, rZ, rC, rI, rU, rT, rP, rQ, if_true]
  refine ⟨rfl, rfl, must_be_yard_ok y _ _ ?_⟩
  refine ⟨rfl, rfl, must_be_standing_ok y st _ _ ?_⟩
  refine ⟨rfl, rfl, must_be_row_ok h2 hn hr _ _ ?_⟩
  refine ⟨rfl, rfl, whole_ok 10000 _ _ ?_⟩
  simp only [rS, rE, rEs, rB, rV, rZ, rC, rI, rU, rT, rP, rQ, if_true, List.getElem?_cons_zero, wO_some, Int.reduceLE, decide_true, Bool.not_true, Bool.false_eq_true, if_false]
  refine ⟨rfl, rfl, table_of_row_ok (ps := ps) (by decide) (by omega) (by omega) hr _ _ ?_⟩
  simp only [rS, rE, rEs, rB, rV, rZ, rC, rI, rU, rT, rP, rQ, if_true]
  refine ⟨rfl, rfl, run_through_ok (ps := ps) (by omega) hw (st_tab st) hr _ _ ?_⟩
  simp only [rS, rE, rEs, rB, rV, rZ, rC, rI, rU, rT, rP, rQ, if_true]
  refine ⟨rfl, rfl, run_through_ok (ps := ps) (by omega) hw (st_tab s1) hr _ _ ?_⟩
  simp only [rS, rE, rEs, rB, rV, rZ, rC, rI, rU, rT, rP, rQ, if_true]
  refine ⟨rfl, rfl, on_lines_ok (by omega) hw (st_tab s2) _ _ ?_⟩
  simp only [rS, rE, rEs, rB, rV, rZ, rC, rI, rU, rT, rP, rQ, if_true]
  refine ⟨rfl, rfl, on_lines_ok (by omega) hw (st_tab st) _ _ ?_⟩
  have key := cmp_ne_SD ((rs.foldl (stp ws n) (rs.foldl (stp ws n) S)).map (lnI ws)) (S.map (lnI ws))
  rw [← lnS_SD, ← lnS_SD] at key
  simp only [rS, rE, rEs, rB, rV, rZ, rC, rI, rU, rT, rP, rQ, if_true, key]
  by_cases hne : lnS ws (rs.foldl (stp ws n) (rs.foldl (stp ws n) S)) = lnS ws S
  · have hd : (rs.foldl (stp ws n) (rs.foldl (stp ws n) S)).map (lnI ws) = S.map (lnI ws) := by
      rw [lnS_SD, lnS_SD] at hne
      have hne : PyData.tuple _ = .tuple _ := hne
      injection hne with hne
      have inj : ∀ a b : List (List Int), a.map I = b.map I → a = b := fun a b h => by
        have := eqvAll_SD a b
        rw [h, eqvAll_refl _ (layN_all (n := 1) fun x hx => by
          obtain ⟨v, _, rfl⟩ := List.mem_map.mp hx
          exact lay_I v).1] at this
        exact of_decide_eq_true this.symm
      exact inj _ _ hne
    obtain ⟨p, b, p1, p2, p3, p4, p5, p6, q⟩ := qS hne
    simp only [hd, decide_true, Bool.not_true, Bool.false_eq_true, if_false]
    refine ⟨by decide, ?_⟩
    have tb := tabR_bd (ps := ps) (by decide) hr
    have tt : Tab n n (tabR n rs) := tstps_tab (unit_tab n) hr
    refine for_inv (fun xs e => ∃ t : Nat, t < p ∧ xs = rngI (1 + t) (10000 - t) ∧ ∃ s7, e = [.val (.tuple [I ws, .int n, NN ps]), .val (SD S), .val (.list (rs.map RD)), .val (.int 10000), .val (.list ((tabR n rs).map J)), .val (SD (rs.foldl (stp ws n) (rs.foldl (stp ws n) S))), .val (SD (itr (fun S => rs.foldl (stp ws n) S) t S)), s7]) (fun x r e h => ?_) (fun e h => ?_) _ _ ⟨0, by omega, rfl, _, rfl⟩
    · obtain ⟨t, ht, hx, s7, rfl⟩ := h
      rw [show 10000 - t = (10000 - (t + 1)) + 1 by omega, rngI_head] at hx
      injection hx with hx1 hx2
      subst hx1 hx2
      have it := led_itr hr t st
      simp only [rS, rE, rEs, rB, rV, rZ, rC, rI, rU, rT, rP, rQ, if_true]
      refine ⟨rfl, rfl, led_by_table_ok (by omega) hw tt (st_tab it.2) (fun c hc x hx v hv y hy => mok_of (tb c hc x hx) (p5 t ht v hv y hy) p6) _ _ ?_⟩
      rw [lt_eq it.2 hr]
      have e1 : rs.foldl (stp ws n) (itr (fun S => rs.foldl (stp ws n) S) t S) = itr (fun S => rs.foldl (stp ws n) S) (t + 1) S := (itr_comm (fun S => rs.foldl (stp ws n) S) t S).symm
      rw [e1]
      simp only [rS, rE, rEs, rB, rV, rZ, rC, rI, rU, rT, rP, rQ, if_true, cmp_eq_SD]
      by_cases hh : itr (fun S => rs.foldl (stp ws n) S) (t + 1) S = S
      · have : t + 1 = p := by
          by_cases hp : t + 1 < p
          · exact absurd hh (p4 (t + 1) (by omega) hp)
          · omega
        simp only [hh, decide_true, if_true]
        rw [show (1 : Int) + (t : Int) = (p : Int) by omega]
        exact q
      · have hp : t + 1 < p := by
          by_cases hp : t + 1 < p
          · exact hp
          · have : t + 1 = p := by omega
            rw [this] at hh
            exact absurd p3 hh
        simp only [hh, decide_false, Bool.false_eq_true, if_false]
        exact ⟨t + 1, hp, by rw [show (1 : Int) + (t : Int) + 1 = 1 + ((t + 1 : Nat) : Int) by omega], _, rfl⟩
    · obtain ⟨t, ht, hx, s7, rfl⟩ := h
      rw [show 10000 - t = (10000 - (t + 1)) + 1 by omega, rngI_head] at hx
      cases hx
  · have hd : (rs.foldl (stp ws n) (rs.foldl (stp ws n) S)).map (lnI ws) ≠ S.map (lnI ws) := fun z => hne (by rw [lnS_SD, lnS_SD, z])
    simp only [hd, decide_false, Bool.not_false, if_true]
    exact qN hne
/-! repetitions that lead home: their laws -/
theorem rep_one {α : Type} (l : List α) : rep 1 l = l := by simp [rep]
theorem rep_zero {α : Type} (l : List α) : rep 0 l = [] := rfl
theorem rep_adds {α : Type} (a b : Nat) (ls : List α) : rep (a + b) ls = rep a ls ++ rep b ls := by
  unfold rep
  rw [← List.replicate_append_replicate, List.flatten_append]
theorem rep_twice {α : Type} (l : List α) : ∀ t : Nat, rep t (l ++ l) = rep (2 * t) l
  | 0 => rfl
  | t + 1 => by rw [rep_adds, rep_twice l t, rep_one, show 2 * (t + 1) = 2 * t + (1 + 1) by omega, rep_adds, rep_adds 1 1, rep_one]
theorem rep_rev {α : Type} (l : List α) : ∀ t : Nat, rep t l.reverse = (rep t l).reverse
  | 0 => rfl
  | t + 1 => by rw [rep_adds, rep_rev l t, rep_one, Nat.add_comm, rep_adds, rep_one, List.reverse_append]
theorem allL_bk : ∀ rs : List (List (Nat × Nat) × Int), allL (bkRs rs) = (allL rs).reverse
  | [] => rfl
  | r :: rs => by
    have e : bkRs (r :: rs) = bkRs rs ++ [bkR r] := by unfold bkRs; simp
    have e1 : allL [bkR r] = rep r.2.toNat r.1.reverse := by unfold allL; simp [bkR]
    have e2 : allL (r :: rs) = rep r.2.toNat r.1 ++ allL rs := by unfold allL; rw [List.flatMap_cons]
    rw [e, allL_app, allL_bk rs, e1, e2, rep_rev, List.reverse_append]
def Hm (n : Nat) (s : Int) (x : Nat → Int) (L : List (Nat × Nat)) (t : Nat) : Prop := En n s (crun x (rep t L)) x
section
variable {n : Nat} {s : Int} {x : Nat → Int} {L : List (Nat × Nat)} (hl : ∀ l ∈ L, l.1 < n ∧ l.2 < n) (hn : ∀ l ∈ L, l.1 ≠ l.2)
theorem hm_zero : Hm n s x L 0 := en_refl n s x
include hl in
theorem hm_add {a b : Nat} (ha : Hm n s x L a) (hb : Hm n s x L b) : Hm n s x L (a + b) := by
  unfold Hm
  rw [rep_adds, crun_app]
  exact en_trans (en_crun (rep_lt hl b) ha) hb
include hl in
theorem hm_sub {a b : Nat} (ha : Hm n s x L a) (hb : Hm n s x L (a + b)) : Hm n s x L b := by
  unfold Hm at hb
  rw [rep_adds, crun_app] at hb
  exact en_trans (en_symm (en_crun (rep_lt hl b) ha)) hb
include hl in
theorem hm_mul {a : Nat} (ha : Hm n s x L a) : ∀ q, Hm n s x L (a * q)
  | 0 => hm_zero
  | q + 1 => hm_add hl (hm_mul ha q) ha
include hl hn in
theorem hm_rev {t : Nat} : Hm n s x L.reverse t ↔ Hm n s x L t := by
  have key : ∀ {M : List (Nat × Nat)}, (∀ l ∈ M, l.1 < n ∧ l.2 < n) → (∀ l ∈ M, l.1 ≠ l.2) → En n s (crun x M.reverse) x → En n s (crun x M) x := fun {M} a b h => by
    have h2 := en_crun a h
    have e := crun_rev (ls := M.reverse) (fun l z => b l (List.mem_reverse.mp z)) x
    rw [List.reverse_reverse] at e
    rw [e] at h2
    exact en_symm h2
  unfold Hm
  rw [rep_rev]
  constructor
  · exact key (rep_lt hl t) (rep_ne' hn t)
  · intro h
    refine key (M := (rep t L).reverse) (fun l z => rep_lt hl t l (List.mem_reverse.mp z)) (fun l z => rep_ne' hn t l (List.mem_reverse.mp z)) ?_
    rw [List.reverse_reverse]
    exact h
end
theorem crun_still {i : Nat} : ∀ {ls : List (Nat × Nat)} (x : Nat → Int), (∀ l ∈ ls, l.1 ≠ i) → crun x ls i = x i
  | [], _, _ => rfl
  | l :: ls, x, h => by
    show crun (cst x l) ls i = x i
    rw [crun_still (ls := ls) _ fun z hz => h z (List.mem_cons_of_mem _ hz)]
    unfold cst
    rw [if_neg fun z => h l List.mem_cons_self z.symm]
theorem hm_eq {n : Nat} {x : Nat → Int} {L : List (Nat × Nat)} (hl : ∀ l ∈ L, l.1 < n ∧ l.2 < n) {t : Nat} : Hm n 0 x L t ↔ crun x (rep t L) = x := by
  constructor
  · intro h
    funext i
    by_cases hi : i < n
    · have := Int.zero_dvd.mp (h i hi)
      omega
    · exact crun_still x fun l z => by have := (rep_lt hl t l z).1; omega
  · intro h
    unfold Hm
    rw [h]
    exact en_refl n 0 x
/-- on a line home in eight times, then in two -/
theorem hm_line {n : Nat} {x : Nat → Int} {L : List (Nat × Nat)} (hl : ∀ l ∈ L, l.1 < n ∧ l.2 < n) {t : Nat} (h1 : 1 ≤ t) (h8 : t ≤ 8) (h : Hm n 0 x L t) : Hm n 0 x L 2 := by
  rw [hm_eq hl, crun_again] at h ⊢
  exact line_home h1 h8 h
/-- on a small ring home in five thousand times -/
theorem hm_ring {n : Nat} {s : Int} {x : Nat → Int} {L : List (Nat × Nat)} (hl : ∀ l ∈ L, l.1 < n ∧ l.2 < n) (hn : ∀ l ∈ L, l.1 ≠ l.2) (n5 : n ≤ 5) (s2 : 2 ≤ s) (s7 : s ≤ 7) : ∃ p, 1 ≤ p ∧ p ≤ 5000 ∧ Hm n s x L p := by
  have small : ∀ s : Nat, 0 < s → s ^ n ≤ 5000 → ∃ p, 1 ≤ p ∧ p ≤ 5000 ∧ Hm n s x L p := fun s h0 h => by
    obtain ⟨p, a, b, c⟩ := home_small hl hn h0 x
    exact ⟨p, a, by omega, c⟩
  have pw : ∀ s : Nat, 0 < s → s ^ n ≤ s ^ 5 := fun s h => Nat.pow_le_pow_right h n5
  have hs : s = 2 ∨ s = 3 ∨ s = 4 ∨ s = 5 ∨ s = 6 ∨ s = 7 := by omega
  rcases hs with rfl | rfl | rfl | rfl | rfl | rfl
  · exact small 2 (by decide) (Nat.le_trans (pw 2 (by decide)) (by decide))
  · exact small 3 (by decide) (Nat.le_trans (pw 3 (by decide)) (by decide))
  · exact small 4 (by decide) (Nat.le_trans (pw 4 (by decide)) (by decide))
  · exact small 5 (by decide) (Nat.le_trans (pw 5 (by decide)) (by decide))
  · obtain ⟨p, a, b, c⟩ := home_six hl hn x
    have : 3 ^ n ≤ 3 ^ 5 := pw 3 (by decide)
    exact ⟨p, a, by omega, c⟩
  · by_cases h5 : n = 5
    · subst h5
      exact home_seven hl hn x
    · exact small 7 (by decide) (Nat.le_trans (Nat.pow_le_pow_right (by decide) (show n ≤ 4 by omega)) (by decide))
/-- a least number of times goes into each -/
theorem hm_goes {P : Nat → Prop} (hadd : ∀ a b, P a → P b → P (a + b)) (hsub : ∀ a b, P a → P (a + b) → P b) {p : Nat} (p1 : 1 ≤ p) (hp : P p) (least : ∀ q, 1 ≤ q → q < p → ¬ P q) (h0 : P 0) (q : Nat) : P q ↔ p ∣ q := by
  have hm : ∀ k, P (p * k) := fun k => by
    induction k with
    | zero => exact h0
    | succ k ih => exact hadd _ _ ih hp
  constructor
  · intro h
    have e : q = p * (q / p) + q % p := (Nat.div_add_mod q p).symm
    have hr : P (q % p) := hsub (p * (q / p)) _ (hm _) (by rw [← e]; exact h)
    have hlt := Nat.mod_lt q p1
    by_cases z : q % p = 0
    · exact Nat.dvd_of_mod_eq_zero z
    · exact absurd hr (least _ (by omega) hlt)
  · rintro ⟨k, rfl⟩
    exact hm k
theorem home_hm {ws : List Int} {n : Nat} {S : List (List Int)} {L : List (Nat × Nat)} {t : Nat} : Home ws n S (rep t L) ↔ ∀ k, k < ws.length → Hm n (ws.getD k 0) (en S k) L t := Iff.rfl
theorem homeL_hm {ws : List Int} {n : Nat} {S : List (List Int)} {L : List (Nat × Nat)} {t : Nat} : HomeL ws n S (rep t L) ↔ ∀ k, k < ws.length → ws.getD k 0 = 0 → Hm n 0 (en S k) L t := Iff.rfl
/-! how great the places get -/
theorem crun_bd {B : Nat} : ∀ {ls : List (Nat × Nat)} {x : Nat → Int}, (∀ i, (x i).natAbs ≤ B) → ∀ i, (crun x ls i).natAbs ≤ 3 ^ ls.length * B := by
  intro ls
  induction ls generalizing B with
  | nil => intro x h i; show (x i).natAbs ≤ 1 * B; rw [Nat.one_mul]; exact h i
  | cons l ls ih =>
    intro x h i
    have := ih (B := 3 * B) (x := cst x l) (fun i => by
      unfold cst
      have h1 := h l.1
      have h2 := h l.2
      have h3 := h i
      split <;> omega) i
    rw [List.length_cons, Nat.pow_succ, Nat.mul_assoc]
    exact this
theorem getD_el {α : Type} {l : List α} {k : Nat} {d : α} (h : k < l.length) : l.getD k d = l[k] := by rw [List.getD_eq_getElem?_getD, List.getElem?_eq_getElem h]; rfl
theorem bnd_en {n w B : Nat} {S : List (List Int)} (hS : Tab n w S) (h : ∀ i, i < n → ∀ k, k < w → (en S k i).natAbs ≤ B) : ∀ v ∈ S, ∀ y ∈ v, y.natAbs ≤ B := fun v hv y hy => by
  obtain ⟨i, hi, e⟩ := List.getElem_of_mem hv
  obtain ⟨k, hk, e2⟩ := List.getElem_of_mem hy
  have lv := hS.2 v hv
  have := h i (by rw [← hS.1]; exact hi) k (by omega)
  unfold en at this
  rw [getD_el hi, e, getD_el hk, e2] at this
  exact this
theorem en_bnd {n w B : Nat} {S : List (List Int)} (hS : Tab n w S) (h : ∀ v ∈ S, ∀ y ∈ v, y.natAbs ≤ B) (k i : Nat) : (en S k i).natAbs ≤ B := by
  unfold en
  by_cases hi : i < S.length
  · have hm := (getD_mem hi).1
    by_cases hk : k < (S.getD i []).length
    · refine h _ hm _ ?_
      rw [getD_el hk]
      exact List.getElem_mem _
    · rw [List.getD_eq_getElem?_getD, List.getElem?_eq_none (by omega)]
      exact Nat.zero_le _
  · have : S.getD i [] = [] := by rw [List.getD_eq_getElem?_getD, List.getElem?_eq_none (by omega)]; rfl
    rw [this]
    exact Nat.zero_le _
theorem rd_bd {s a : Int} {W : Nat} (h : s ≤ (W : Int)) (h0 : 0 < s) : (rd s a).natAbs ≤ W := by
  unfold rd
  rw [if_pos h0]
  have f1 := Int.fmod_nonneg_of_pos a h0
  have f2 := Int.fmod_lt_of_pos a h0
  omega
theorem bnd_again {ws : List Int} {n B W : Nat} {ps : List Nat} {S : List (List Int)} {L : List (Nat × Nat)} (hw : Ways ws) (hW : ∀ s ∈ ws, s ≤ (W : Int)) (h : StOk ws n S) (hL : ∀ l ∈ L, LeapOk n ps l) (hB : ∀ v ∈ S, ∀ y ∈ v, y.natAbs ≤ B) (hh : HomeL ws n S (rep 2 L)) (t : Nat) : ∀ v ∈ seqR ws S (rep t L), ∀ y ∈ v, y.natAbs ≤ 3 ^ L.length * B + W := by
  have hlt : ∀ l ∈ L, l.1 < n ∧ l.2 < n := fun l z => ⟨(hL l z).1, (hL l z).2.1⟩
  refine bnd_en (st_tab (seqR_st h (rep_ok hL t))) fun i hi k hk => ?_
  rw [en_seqR h (rep_ok hL t) hi hk]
  rcases ways_at hw hk with z | z
  · rw [z]
    have h2 := (hm_eq hlt).mp (hh k hk z)
    have e : crun (en S k) (rep t L) = crun (en S k) (rep (t % 2) L) := by
      have e1 : ∀ m, crun (en S k) (rep (2 * m) L) = en S k := fun m => by
        induction m with
        | zero => rfl
        | succ m ih => rw [show 2 * (m + 1) = 2 * m + 2 by omega, rep_adds, crun_app, ih, h2]
      have e2 : t = 2 * (t / 2) + t % 2 := by omega
      rw [e2, rep_adds, crun_app, e1, show (2 * (t / 2) + t % 2) % 2 = t % 2 by omega]
    show (crun (en S k) (rep t L) i).natAbs ≤ _
    rw [e]
    have b := crun_bd (ls := rep (t % 2) L) (fun i => en_bnd (st_tab h) hB k i) i
    have l1 : (rep (t % 2) L).length ≤ L.length := by
      rw [rep_len]
      have : t % 2 = 0 ∨ t % 2 = 1 := by omega
      rcases this with z | z <;> rw [z] <;> omega
    have l2 : 3 ^ (rep (t % 2) L).length ≤ 3 ^ L.length := Nat.pow_le_pow_right (by decide) l1
    have l3 := Nat.mul_le_mul_right B l2
    omega
  · have m : ws.getD k 0 ∈ ws := by
      rw [List.getD_eq_getElem?_getD, List.getElem?_eq_getElem hk]
      exact List.getElem_mem _
    have := rd_bd (a := crun (en S k) (rep t L) i) (hW _ m) (by omega)
    omega
/-- runs done a few times -/
def Few (rs : List (List (Nat × Nat) × Int)) : Prop := ∀ r ∈ rs, r.1.length ≤ 40 ∧ r.2 ≤ 3
theorem few_len : ∀ {rs : List (List (Nat × Nat) × Int)}, Few rs → (allL rs).length ≤ 120 * rs.length
  | [], _ => Nat.le_refl 0
  | r :: rs, h => by
    have ih := few_len (rs := rs) fun z hz => h z (List.mem_cons_of_mem _ hz)
    obtain ⟨h1, h2⟩ := h r List.mem_cons_self
    have e2 : allL (r :: rs) = rep r.2.toNat r.1 ++ allL rs := by unfold allL; rw [List.flatMap_cons]
    rw [e2, List.length_append, rep_len, List.length_cons]
    have : r.2.toNat * r.1.length ≤ 3 * 40 := Nat.mul_le_mul (by omega) h1
    omega
/-- what again tells -/
theorem again_val {ws : List Int} {n : Nat} {ps : List Nat} {S : List (List Int)} (y : YardOk ws n ps) (st : StOk ws n S) {rs : List (List (Nat × Nat) × Int)} (hr : ∀ r ∈ rs, RunOk n ps r) (hf : Few rs) (h10 : rs.length ≤ 10) (hB : ∀ v ∈ S, ∀ y ∈ v, y.natAbs ≤ 10000000000010) (hW : ∀ s ∈ ws, s ≤ 10) (Q : DV → List D → Prop) (X)
    (qN : ¬ HomeL ws n S (rep 2 (allL rs)) → Q (.d .none) [])
    (qS : HomeL ws n S (rep 2 (allL rs)) → ∃ p : Nat, 1 ≤ p ∧ p ≤ 10000 ∧ Home ws n S (rep p (allL rs)) ∧ (∀ q, 1 ≤ q → q < p → ¬ Home ws n S (rep q (allL rs))) ∧ Q (.d (.int p)) []) :
    wF (f_again.run [] [Y ws n ps, SD S, .list (rs.map RD)]) Q X := by
  have hL := allL_ok hr
  have it := fun t => (led_itr hr t st).1
  have two : rs.foldl (stp ws n) (rs.foldl (stp ws n) S) = seqR ws S (rep 2 (allL rs)) := it 2
  have w3 := y.2.1
  refine again_ok y st y.2.2.2.1 y.2.2.2.2.1 (by omega) hr Q X (fun h => qN fun z => h ?_) fun h => ?_
  · rw [two]; exact (homeL_iff st (rep_ok hL 2)).mpr z
  · rw [two] at h
    have hh := (homeL_iff st (rep_ok hL 2)).mp h
    obtain ⟨p, p1, p2, p3, p4, q⟩ := qS hh
    refine ⟨p, 4000, p1, p2, ?_, fun q q1 q2 z => p4 q q1 q2 ?_, fun t _ => ?_, by omega, q⟩
    · rw [it p]; exact (home_iff y.2.2.1 st (rep_ok hL p)).mpr p3
    · rw [it q] at z; exact (home_iff y.2.2.1 st (rep_ok hL q)).mp z
    · rw [it t]
      intro v hv y' hy
      have b := bnd_again (W := 10) y.2.2.1 hW st hL hB hh t v hv y' hy
      have l1 := few_len hf
      have l2 : 3 ^ (allL rs).length ≤ 4 ^ (120 * 10) := Nat.le_trans (Nat.pow_le_pow_left (by decide) _) (Nat.pow_le_pow_right (by decide) (by omega))
      have l3 := Nat.mul_le_mul_right 10000000000010 l2
      have l4 : (4 : Nat) ^ (120 * 10) * 10000000000010 + 10 ≤ 2 ^ 4000 := by decide +kernel
      omega
end K06


set_option Elab.async false
set_option linter.all false
set_option maxRecDepth 100000
set_option maxHeartbeats 4000000
namespace K06
open PySem DL
/-! the law's helpers -/
theorem u_law_whole : f__law_whole.run = evF g__law_whole [] false 1 b__law_whole := rfl
theorem law_whole_int (i : Int) (Q : DV → List D → Prop) (X) (q : Q (.d (.bool true)) []) : wF (f__law_whole.run [] [.int i]) Q X := by
  rw [u_law_whole, rF, show env0 false 1 [] [.int i] = [.val (.int i)] from rfl]
  simp only [b__law_whole, rS, rE, rEs, rB, rV, rZ, rC, rI, rU, rT, rP, rQ, if_true, Bool.not_false]
  exact q
theorem u_divisor : f__law_divisor.run = evF g__law_divisor [] false 2 b__law_divisor := rfl
theorem divisor_ok (a b : Nat) (Q : DV → List D → Prop) (X) (q : Q (.d (.int (Nat.gcd a b))) []) : wF (f__law_divisor.run [] [.int a, .int b]) Q X := by
  rw [u_divisor, rF, show env0 false 2 [] [.int a, .int b] = [.val (.int a), .val (.int b)] from rfl]
  simp only [b__law_divisor, rS, rE, rEs, rB, rV, rZ, rC, rI, rU, rT, rP, rQ, if_true]
  refine while_inv (fun e => ∃ x y : Nat, e = [.val (.int x), .val (.int y)] ∧ Nat.gcd x y = Nat.gcd a b) (fun e => match (e[1]? : Option DL.Slot) with | some (.val (.int x)) => x.natAbs | _ => 0) (fun e he => ?_) _ _ ⟨a, b, rfl, rfl⟩ (by show b < b + 1; omega)
  obtain ⟨x, y, rfl, hg⟩ := he
  simp only [rS, rE, rEs, rB, rV, rZ, rC, rI, rU, rT, rP, rQ, if_true]
  by_cases h : y = 0
  · subst h
    simp only [Int.natCast_zero, decide_true, Bool.not_true, Bool.false_eq_true, if_false, rS, rE, rEs, rB, rV, rZ, rC, rI, rU, rT, rP, rQ, if_true]
    rw [Nat.gcd_zero_right] at hg
    rw [← hg] at q
    exact q
  · have h0 : (y : Int) ≠ 0 := by omega
    simp only [h0, decide_false, Bool.not_false, if_true, rS, rE, rEs, rB, rV, rZ, rC, rI, rU, rT, rP, rQ, if_true]
    refine ⟨h0, l2, ⟨y, x % y, ?_, ?_⟩, ?_⟩
    · rw [Int.fmod_eq_emod_of_nonneg _ (by omega)]
      rfl
    · rw [← hg, Nat.gcd_comm x y, Nat.gcd_rec y x, Nat.gcd_comm]
    · rw [Int.fmod_eq_emod_of_nonneg _ (by omega)]
      have := Nat.mod_lt x (show 0 < y by omega)
      show ((x : Int) % y).natAbs < (y : Int).natAbs
      omega
theorem u_least : f__law_least.run = evF g__law_least [f__law_divisor] false 2 b__law_least := rfl
theorem least_ok {a b : Nat} (a1 : 1 ≤ a) (a2 : a ≤ 2) (Q : DV → List D → Prop) (X) (q : Q (.d (.int (Nat.lcm a b))) []) : wF (f__law_least.run [] [.int a, .int b]) Q X := by
  rw [u_least, rF, show env0 false 2 [] [.int a, .int b] = [.val (.int a), .val (.int b)] from rfl]
  simp only [b__law_least, rS, rE, rEs, rB, rV, rZ, rC, rI, rU, rT, rP, rQ, if_true]
  have hg0 : 0 < Nat.gcd a b := Nat.gcd_pos_of_pos_left b a1
  have hg2 : Nat.gcd a b ≤ a := Nat.gcd_le_left b a1
  refine ⟨.inl (by omega), rfl, rfl, divisor_ok a b _ _ ?_⟩
  simp only [rS, rE, rEs, rB, rV, rZ, rC, rI, rU, rT, rP, rQ, if_true]
  refine ⟨⟨by omega, ?_⟩, ?_⟩
  · have : (Nat.gcd a b) = 1 ∨ (Nat.gcd a b) = 2 := by omega
    rcases this with z | z <;> rw [z] <;> decide
  · rw [Int.fdiv_eq_ediv_of_nonneg _ (by omega), ← Int.natCast_mul, ← Int.natCast_ediv]
    exact q
theorem u_swing : f__law_swinging.run = evF g__law_swinging [f__law_take, f__law_standing] true 6 b__law_swinging := rfl
theorem at_0 {S : List (List Int)} (h : 0 < S.length) (Q : D → Prop) : wO (L2.atI (S.map I) 0) Q = Q (I (S.getD 0 [])) := at_I h Q
theorem at_1 {S : List (List Int)} (h : 1 < S.length) (Q : D → Prop) : wO (L2.atI (S.map I) 1) Q = Q (I (S.getD 1 [])) := at_I h Q
theorem mul_one {v : List Int} (m : Nat) (hm : m ≤ 100) (Q : DV → Prop) : wO (bin .mul (.tuple [I v]) (.int m)) Q = Q (.d (.tuple ((List.replicate m v).map I))) := by
  have e : rep m [I v] = (List.replicate m v).map I := by
    unfold rep
    rw [List.map_replicate]
    induction m with
    | zero => rfl
    | succ m ih => rw [List.replicate_succ, List.flatten_cons, ih (by omega)]; rfl
  by_cases h : m = 0
  · subst h
    rfl
  · rw [mul_rep (m := m) rfl (by omega) (by omega) (by simp) (by simp), e]
theorem sl_two (xs : List D) (Q : DV → Prop) : wO (sl (.tuple xs) none (some 2)) Q = Q (.d (.tuple (xs.take 2))) := by
  show Q (.d (.tuple (cut xs none (some 2)))) = _
  rw [show (2 : Int) = ((2 : Nat) : Int) from rfl, cut_take]
theorem swinging_ok {o : List D} (p : Pile o) {ws : List Int} (hw : 1 ≤ ws.length) (hw2 : ws.length ≤ 100) {n : Nat} (h2 : 2 ≤ n) (hn : n ≤ 6) {W : Nat} (hW : ∀ s ∈ ws, s ≤ (W : Int)) (Q : DV → List D → Prop) (X) (q : ∀ (S : List (List Int)) o', StOk ws n S → (∀ v ∈ S, ∀ x ∈ v, x.natAbs ≤ 10000000000000 + W) → Pile o' → Q (.d (SD S)) o') :
    wF (f__law_swinging.run o [I ws, .int n]) Q X := by
  rw [u_swing, rF, show env0 true 6 o [I ws, .int n] = [.own true o, .val (I ws), .val (.int n), .un, .un, .un] from rfl]
  simp only [b__law_swinging, rS, rE, rEs, rB, rV, rZ, rC, rI, rU, rT, rP, rQ, if_true]
  refine ⟨rfl, rfl, take_ok p (by decide) (by decide) _ _ fun kind o1 k1 k2 p1 => ?_⟩
  simp only [rS, rE, rEs, rB, rV, rZ, rC, rI, rU, rT, rP, rQ, if_true]
  refine ⟨rfl, rfl, standing_okb p1 hw hw2 (by omega) hW _ _ fun S o2 hS1 hS2 hS3 p2 => ?_⟩
  have fin : ∀ T : List (List Int), T.length = n → (∀ v ∈ T, v ∈ S) → Q (.d (.tuple (T.map I))) o2 := fun T hT hv => q T o2 ⟨hT, fun v h => hS2 v (hv v h)⟩ (fun v h => hS3 v (hv v h)) p2
  have m0 := (getD_mem (S := S) (k := 0) (by omega)).1
  have m1 := (getD_mem (S := S) (k := 1) (by omega)).1
  have hk : kind = 0 ∨ kind = 1 ∨ kind = 2 ∨ kind = 3 := by omega
  have e2 : (n : Int) - 2 = ((n - 2 : Nat) : Int) := by omega
  rcases hk with rfl | rfl | rfl | rfl
  · simp only [rS, rE, rEs, rB, rV, rZ, rC, rI, rU, rT, rP, rQ, if_true, Int.reduceEq, decide_true, decide_false, Bool.false_eq_true, if_false, at_0 (S := S) (by omega), mul_one n (by omega)]
    exact ⟨l1, fin _ List.length_replicate fun v hv => by rw [(List.mem_replicate.mp hv).2]; exact m0⟩
  · simp only [rS, rE, rEs, rB, rV, rZ, rC, rI, rU, rT, rP, rQ, if_true, Int.reduceEq, decide_true, decide_false, Bool.false_eq_true, if_false, at_0 (S := S) (by omega), at_1 (S := S) (by omega), e2, mul_one (n - 2) (by omega)]
    refine ⟨l2, l1, by rw [List.length_map, List.length_replicate]; exact Nat.le_trans (show 2 + (n - 2) ≤ 100 by omega) (by decide), ?_⟩
    refine fin (S.getD 0 [] :: S.getD 1 [] :: List.replicate (n - 2) (S.getD 0 [])) (by rw [List.length_cons, List.length_cons, List.length_replicate]; omega) fun v hv => ?_
    rcases List.mem_cons.mp hv with z | hv
    · rw [z]; exact m0
    · rcases List.mem_cons.mp hv with z | hv
      · rw [z]; exact m1
      · rw [(List.mem_replicate.mp hv).2]; exact m0
  · simp only [rS, rE, rEs, rB, rV, rZ, rC, rI, rU, rT, rP, rQ, if_true, Int.reduceEq, decide_true, decide_false, Bool.false_eq_true, if_false, sl_two, e2]
    refine ⟨big_of (by omega) (by omega), ?_⟩
    rw [Int.toNat_natCast, rng0]
    refine comp_pure (fun d => match d with | .int i => some (I (S.getD (i % 2).toNat [])) | _ => none) rfl (fun z hz => ?_) fun e6 he => ?_
    · obtain ⟨i, hi, rfl⟩ := List.mem_map.mp hz
      unfold ni
      simp only [rS, rE, rEs, rB, rV, rZ, rC, rI, rU, rT, rP, rQ, if_true, wipeE]
      refine ⟨by decide, ?_⟩
      have hm : i % 2 < S.length := by omega
      rw [Int.fmod_eq_emod_of_nonneg _ (by decide), show (i : Int) % 2 = ((i % 2 : Nat) : Int) by omega]
      exact (at_I hm _).mpr rfl
    · rw [fm_map (h := fun i : Nat => I (S.getD (i % 2) [])) fun i _ => by
        show some (I (S.getD ((i : Int) % 2).toNat [])) = _
        rw [show ((i : Int) % 2).toNat = i % 2 by omega]]
      refine ⟨by rw [List.length_map, List.length_range]; exact Nat.le_trans (show n - 2 ≤ 100 by omega) (by decide), ?_⟩
      simp only [he, rS, rE, rEs, rB, rV, rZ, rC, rI, rU, rT, rP, rQ, if_true]
      rw [← List.map_take, show (List.range (n - 2)).map (fun i : Nat => I (S.getD (i % 2) [])) = ((List.range (n - 2)).map fun i : Nat => S.getD (i % 2) []).map I by rw [List.map_map]; rfl]
      rw [← List.map_append]
      refine ⟨by rw [List.length_map, List.length_map, List.length_take, List.length_map, List.length_range]; exact Nat.le_trans (show min 2 S.length + (n - 2) ≤ 100 by omega) (by decide), ?_⟩
      refine fin _ (by rw [List.length_append, List.length_take, List.length_map, List.length_range]; omega) fun v hv => ?_
      rcases List.mem_append.mp hv with z | z
      · exact List.mem_of_mem_take z
      · obtain ⟨i, _, rfl⟩ := List.mem_map.mp z
        exact (getD_mem (S := S) (k := i % 2) (by omega)).1
  · simp only [rS, rE, rEs, rB, rV, rZ, rC, rI, rU, rT, rP, rQ, if_true, Int.reduceEq, decide_true, decide_false, Bool.false_eq_true, if_false]
    exact fin S hS1 fun v hv => hv
end K06


set_option Elab.async false
set_option linter.all false
set_option maxRecDepth 100000
set_option maxHeartbeats 4000000
namespace K06
open PySem DL
/-! the law's looks at lines and at a ring -/
theorem cmp_ne_bb (a b : Bool) (Q : Bool → Prop) : wO (cmp .ne (.bool a) (.bool b)) Q = Q (!(a == b)) := by
  show wO (if lay (.bool a) && lay (.bool b) then some (!PyData.eqv (.bool a) (.bool b)) else none) Q = _
  rw [(layN_bool 0 a).lay (by decide), (layN_bool 0 b).lay (by decide), Bool.and_self, if_pos rfl, wO_some]
  simp only [PyData.eqv]
theorem notn_int (i : Int) (Q : Bool → Prop) : wO (cmp .notn (.int i) .none) Q = Q true := rfl
theorem isn_int (i : Int) (Q : Bool → Prop) : wO (cmp .isn (.int i) .none) Q = Q false := rfl
theorem isn_none (Q : Bool → Prop) : wO (cmp .isn .none .none) Q = Q true := rfl
theorem eq_none (Q : Bool → Prop) : wO (cmp .eq .none .none) Q = Q true := cmp_eq_self (layN_none 0) (by decide) Q
theorem zs_at (m k : Nat) : (zs m).getD k 0 = 0 := by
  unfold zs
  rw [List.getD_eq_getElem?_getD, List.getElem?_replicate]
  split <;> rfl
theorem zs_ways (m : Nat) : Ways (zs m) := fun s hs => .inl (List.mem_replicate.mp hs).2
theorem zs_le (m W : Nat) : ∀ s ∈ zs m, s ≤ (W : Int) := fun s hs => by rw [(List.mem_replicate.mp hs).2]; omega
theorem posts_nil {n : Nat} (h : 0 < n) : Posts n [] := ⟨List.nil_sublist _, h⟩
/-- what again tells on lines -/
def Told (H : Nat → Prop) (d : D) : Prop := (d = .none ∧ ¬ H 2) ∨ (d = .int 1 ∧ H 1 ∧ H 2) ∨ (d = .int 2 ∧ H 2 ∧ ¬ H 1)
section
variable {m n : Nat} {S : List (List Int)}
theorem lines_add {L : List (Nat × Nat)} (hl : ∀ l ∈ L, l.1 < n ∧ l.2 < n) {ws : List Int} {a b : Nat} (ha : Home ws n S (rep a L)) (hb : Home ws n S (rep b L)) : Home ws n S (rep (a + b) L) := fun k hk => hm_add hl (ha k hk) (hb k hk)
theorem lines_sub {L : List (Nat × Nat)} (hl : ∀ l ∈ L, l.1 < n ∧ l.2 < n) {ws : List Int} {a b : Nat} (ha : Home ws n S (rep a L)) (hb : Home ws n S (rep (a + b) L)) : Home ws n S (rep b L) := fun k hk => hm_sub hl (ha k hk) (hb k hk)
theorem lines_eight {L : List (Nat × Nat)} (hl : ∀ l ∈ L, l.1 < n ∧ l.2 < n) {t : Nat} (h1 : 1 ≤ t) (h8 : t ≤ 8) (h : Home (zs m) n S (rep t L)) : Home (zs m) n S (rep 2 L) := fun k hk => by
  have := h k hk
  rw [zs_at] at this ⊢
  exact hm_line hl h1 h8 this
theorem lines_L {M : List (Nat × Nat)} : HomeL (zs m) n S M ↔ Home (zs m) n S M :=
  ⟨fun h k hk => by rw [zs_at]; exact h k hk (zs_at m k), fun h k hk _ => by have := h k hk; rw [zs_at] at this; exact this⟩
theorem again_lines (y : YardOk (zs m) n []) (st : StOk (zs m) n S) {rs : List (List (Nat × Nat) × Int)} (hr : ∀ r ∈ rs, RunOk n [] r) (hf : Few rs) (h10 : rs.length ≤ 10) (hB : ∀ v ∈ S, ∀ y ∈ v, y.natAbs ≤ 10000000000010) (Q : DV → List D → Prop) (X)
    (q : ∀ d, Told (fun t => Home (zs m) n S (rep t (allL rs))) d → Q (.d d) []) : wF (f_again.run [] [Y (zs m) n [], SD S, .list (rs.map RD)]) Q X := by
  refine again_val y st hr hf h10 hB (zs_le m 10) Q X (fun h => q _ (.inl ⟨rfl, fun z => h (lines_L.mpr z)⟩)) fun h => ?_
  have h2 := lines_L.mp h
  by_cases h1 : Home (zs m) n S (rep 1 (allL rs))
  · exact ⟨1, by decide, by decide, h1, fun q a b => by omega, q _ (.inr (.inl ⟨rfl, h1, h2⟩))⟩
  · refine ⟨2, by decide, by decide, h2, fun q a b => ?_, q _ (.inr (.inr ⟨rfl, h2, h1⟩))⟩
    have : q = 1 := by omega
    rw [this]; exact h1
theorem told_same {H K : Nat → Prop} (h : ∀ t, H t ↔ K t) {a b : D} (ha : Told H a) (hb : Told K b) : a = b := by
  have h1 := h 1
  have h2 := h 2
  rcases ha with ⟨rfl, a1⟩ | ⟨rfl, a1, a2⟩ | ⟨rfl, a1, a2⟩ <;> rcases hb with ⟨rfl, b1⟩ | ⟨rfl, b1, b2⟩ | ⟨rfl, b1, b2⟩
  · rfl
  · exact absurd (h2.mpr b2) a1
  · exact absurd (h2.mpr b1) a1
  · exact absurd (h2.mp a2) b1
  · rfl
  · exact absurd (h1.mp a1) b2
  · exact absurd (h2.mp a1) b1
  · exact absurd (h1.mpr b1) a2
  · rfl
theorem lin_lt {rs : List (List (Nat × Nat) × Int)} (hr : ∀ r ∈ rs, RunOk n [] r) : ∀ l ∈ allL rs, l.1 < n ∧ l.2 < n := fun l z => ⟨(allL_ok hr l z).1, (allL_ok hr l z).2.1⟩
theorem lin_ne {rs : List (List (Nat × Nat) × Int)} (hr : ∀ r ∈ rs, RunOk n [] r) : ∀ l ∈ allL rs, l.1 ≠ l.2 := fun l z => (allL_ok hr l z).2.2.1
theorem u_lines : f__law_lines_right.run = evF g__law_lines_right [f_done, f_again, f_back] false 7 b__law_lines_right := rfl
theorem done_next {ws : List Int} (y : YardOk ws n []) (st : StOk ws n S) {rs : List (List (Nat × Nat) × Int)} (hr : ∀ r ∈ rs, RunOk n [] r) (t : Nat) (Q : DV → List D → Prop) (X) (q : Q (.d (SD (seqR ws S (rep (t + 1) (allL rs))))) []) : wF (f_done.run [] [Y ws n [], SD (seqR ws S (rep t (allL rs))), .list (rs.map RD)]) Q X := by
  have w3 := y.2.1
  have st2 := seqR_st (ls := rep t (allL rs)) st (rep_ok (allL_ok hr) t)
  refine done_ok y st2 y.2.2.2.1 y.2.2.2.2.1 (by omega) hr Q X ?_
  rw [led_all st2 hr, ← seqR_app]
  rw [rep_adds, rep_one] at q
  exact q
theorem lines_right_ok (y : YardOk (zs m) n []) (st : StOk (zs m) n S) {rs : List (List (Nat × Nat) × Int)} (hr : ∀ r ∈ rs, RunOk n [] r) (hf : Few rs) (h5 : rs.length ≤ 5) (hB : ∀ v ∈ S, ∀ y ∈ v, y.natAbs ≤ 10000000000010) {told : D} (ht : Told (fun t => Home (zs m) n S (rep t (allL rs))) told) (Q : DV → List D → Prop) (X)
    (q : Q (.d (.bool true)) []) : wF (f__law_lines_right.run [] [Y (zs m) n [], SD S, .list (rs.map RD), told]) Q X := by
  have hl := lin_lt hr
  have hne := lin_ne hr
  rw [u_lines, rF, show env0 false 7 [] [Y (zs m) n [], SD S, .list (rs.map RD), told] = [.val (Y (zs m) n []), .val (SD S), .val (.list (rs.map RD)), .val told, .un, .un, .un] from rfl]
  simp only [b__law_lines_right, rS, rE, rEs, rB, rV, rZ, rC, rI, rU, rT, rP, rQ, if_true]
  refine ⟨by decide, ?_⟩
  refine for_inv (fun xs e => ∃ t : Nat, t ≤ 8 ∧ xs = rngI (1 + t) (8 - t) ∧ ∃ s5, e = [.val (Y (zs m) n []), .val (SD S), .val (.list (rs.map RD)), .val told, .val (SD (seqR (zs m) S (rep t (allL rs)))), s5, .un]) (fun x r e h => ?_) (fun e h => ?_) _ _ ⟨0, by decide, rfl, _, rfl⟩
  · obtain ⟨t, t8, hx, s5, rfl⟩ := h
    by_cases h8 : t = 8
    · subst h8; cases hx
    · rw [show 8 - t = (8 - (t + 1)) + 1 by omega, rngI_head] at hx
      injection hx with hx1 hx2
      subst hx1 hx2
      simp only [rS, rE, rEs, rB, rV, rZ, rC, rI, rU, rT, rP, rQ, if_true]
      refine ⟨rfl, rfl, done_next y st hr t _ _ ?_⟩
      have hh := home_iff (zs_ways m) st (rep_ok (allL_ok hr) (t + 1))
      have nxt : ∀ P : Nat → Prop, P (t + 1) → ∃ t : Nat, P t := fun P h => ⟨t + 1, h⟩
      simp only [rS, rE, rEs, rB, rV, rZ, rC, rI, rU, rT, rP, rQ, if_true, cmp_eq_SD]
      have go := fun s5 => (⟨t + 1, by omega, by rw [show (1 : Int) + (t : Int) + 1 = 1 + ((t + 1 : Nat) : Int) by omega], s5, rfl⟩ : ∃ t' : Nat, t' ≤ 8 ∧ rngI ((1 : Int) + t + 1) (8 - (t + 1)) = rngI (1 + t') (8 - t') ∧ ∃ s5', [Slot.val (Y (zs m) n []), .val (SD S), .val (.list (rs.map RD)), .val told, .val (SD (seqR (zs m) S (rep (t + 1) (allL rs)))), s5, .un] = [.val (Y (zs m) n []), .val (SD S), .val (.list (rs.map RD)), .val told, .val (SD (seqR (zs m) S (rep t' (allL rs)))), s5', .un])
      rcases ht with ⟨rfl, a1⟩ | ⟨rfl, a1, a2⟩ | ⟨rfl, a1, a2⟩
      · have no : ¬ seqR (zs m) S (rep (t + 1) (allL rs)) = S := fun z => a1 (lines_eight hl (by omega) (by omega) (hh.mp z))
        simp only [rS, rE, rEs, rB, rV, rZ, rC, rI, rU, rT, rP, rQ, if_true, no, decide_false, cmp_ne_bb, beq_self_eq_true, Bool.not_true, Bool.false_eq_true, if_false]
        exact go _
      · have yes : seqR (zs m) S (rep (t + 1) (allL rs)) = S := hh.mpr (by
          have := (hm_goes (P := fun t => Home (zs m) n S (rep t (allL rs))) (fun a b => lines_add hl) (fun a b => lines_sub hl) (p := 1) (by decide) a1 (fun q a b => by omega) (fun k hk => hm_zero) (t + 1)).mpr (Nat.one_dvd _)
          exact this)
        have e1 : Int.fmod (1 + (t : Int)) 1 = 0 := by rw [Int.fmod_eq_emod_of_nonneg _ (by decide)]; omega
        simp only [rS, rE, rEs, rB, rV, rZ, rC, rI, rU, rT, rP, rQ, if_true, yes, decide_true, notn_int, e1, cmp_ne_bb, beq_self_eq_true, Bool.not_true, Bool.false_eq_true, if_false, show ((1 : Int) != 0) = true from rfl]
        refine ⟨by decide, ?_⟩
        have := go (.val (.int (1 + t)))
        rw [yes] at this
        exact this
      · have iff := hm_goes (P := fun t => Home (zs m) n S (rep t (allL rs))) (fun a b => lines_add hl) (fun a b => lines_sub hl) (p := 2) (by decide) a1 (fun q a b => by rw [show q = 1 by omega]; exact a2) (fun k hk => hm_zero) (t + 1)
        by_cases ev : 2 ∣ t + 1
        · have yes : seqR (zs m) S (rep (t + 1) (allL rs)) = S := hh.mpr (iff.mpr ev)
          have e1 : Int.fmod (1 + (t : Int)) 2 = 0 := by rw [Int.fmod_eq_emod_of_nonneg _ (by decide)]; omega
          simp only [rS, rE, rEs, rB, rV, rZ, rC, rI, rU, rT, rP, rQ, if_true, yes, decide_true, notn_int, e1, cmp_ne_bb, beq_self_eq_true, Bool.not_true, Bool.false_eq_true, if_false, show ((2 : Int) != 0) = true from rfl]
          refine ⟨by decide, ?_⟩
          have := go (.val (.int (1 + t)))
          rw [yes] at this
          exact this
        · have no : ¬ seqR (zs m) S (rep (t + 1) (allL rs)) = S := fun z => ev (iff.mp (hh.mp z))
          have e1 : Int.fmod (1 + (t : Int)) 2 = 1 := by rw [Int.fmod_eq_emod_of_nonneg _ (by decide)]; omega
          simp only [rS, rE, rEs, rB, rV, rZ, rC, rI, rU, rT, rP, rQ, if_true, no, decide_false, notn_int, e1, cmp_ne_bb, beq_self_eq_true, Bool.not_true, Bool.false_eq_true, if_false, show ((2 : Int) != 0) = true from rfl, Int.reduceEq]
          exact ⟨by decide, go _⟩
  · obtain ⟨t, t8, hx, s5, rfl⟩ := h
    have h2 : ∀ r ∈ rs ++ rs, RunOk n [] r := fun r z => (List.mem_append.mp z).elim (hr r) (hr r)
    have f2 : Few (rs ++ rs) := fun r z => (List.mem_append.mp z).elim (hf r) (hf r)
    have fb : Few (bkRs rs) := fun r z => by
      obtain ⟨r', hr', rfl⟩ := List.mem_map.mp (List.mem_reverse.mp z)
      have := hf r' hr'
      exact ⟨by show r'.1.reverse.length ≤ 40; rw [List.length_reverse]; exact this.1, this.2⟩
    have hb := bkRs_ok hr
    have lr : (rs.map RD).length ≤ 5 := by rw [List.length_map]; exact h5
    simp only [rS, rE, rEs, rB, rV, rZ, rC, rI, rU, rT, rP, rQ, if_true]
    rw [← List.map_append]
    refine ⟨Nat.le_trans (show (rs.map RD).length + (rs.map RD).length ≤ 100 by omega) (by decide), rfl, rfl, again_lines y st h2 f2 (by rw [List.length_append]; omega) hB _ _ fun tw htw => ?_⟩
    rw [allL_app] at htw
    have htw : Told (fun t => Home (zs m) n S (rep (2 * t) (allL rs))) tw := by
      unfold Told at htw ⊢
      simp only [rep_twice] at htw
      exact htw
    have last : ∀ Q : DV → List D → Prop, ∀ X, Q (.d told) [] → wF (f_again.run [] [Y (zs m) n [], SD S, .list ((bkRs rs).map RD)]) Q X := fun Q X q => again_lines y st hb fb (by rw [bkRs_len]; omega) hB Q X fun d hd => by
      rw [allL_bk] at hd
      have : told = d := told_same (fun t => ⟨fun h k hk => (hm_rev hl hne).mpr (h k hk), fun h k hk => (hm_rev hl hne).mp (h k hk)⟩) ht hd
      rw [← this]; exact q
    rcases ht with ⟨rfl, a1⟩ | ⟨rfl, a1, a2⟩ | ⟨rfl, a1, a2⟩
    · have : tw = .none := by
        rcases htw with ⟨e, b1⟩ | ⟨e, b1, b2⟩ | ⟨e, b1, b2⟩
        · exact e
        · exact absurd b1 a1
        · exact absurd (lines_eight hl (by decide) (by decide) b1) a1
      subst this
      simp only [rS, rE, rEs, rB, rV, rZ, rC, rI, rU, rT, rP, rQ, if_true, isn_none, eq_none, if_true]
      refine ⟨l2, rfl, rfl, back_ok y.2.2.2.2.1 (by omega) hr _ _ ?_⟩
      simp only [rS, rE, rEs, rB, rV, rZ, rC, rI, rU, rT, rP, rQ, if_true]
      refine ⟨rfl, rfl, last _ _ ?_⟩
      simp only [rS, rE, rEs, rB, rV, rZ, rC, rI, rU, rT, rP, rQ, if_true, eq_none]
      exact q
    · have : tw = .int 1 := by
        rcases htw with ⟨e, b1⟩ | ⟨e, b1, b2⟩ | ⟨e, b1, b2⟩
        · exact absurd (lines_add hl a2 a2) b1
        · exact e
        · exact absurd a2 b2
      subst this
      simp only [rS, rE, rEs, rB, rV, rZ, rC, rI, rU, rT, rP, rQ, if_true, isn_int, Int.reduceEq, decide_true, Bool.false_eq_true, if_false]
      refine ⟨l2, rfl, rfl, back_ok y.2.2.2.2.1 (by omega) hr _ _ ?_⟩
      simp only [rS, rE, rEs, rB, rV, rZ, rC, rI, rU, rT, rP, rQ, if_true]
      refine ⟨rfl, rfl, last _ _ ?_⟩
      simp only [rS, rE, rEs, rB, rV, rZ, rC, rI, rU, rT, rP, rQ, if_true, decide_true]
      exact q
    · have : tw = .int 1 := by
        rcases htw with ⟨e, b1⟩ | ⟨e, b1, b2⟩ | ⟨e, b1, b2⟩
        · exact absurd (lines_add hl a1 a1) b1
        · exact e
        · exact absurd a1 b2
      subst this
      simp only [rS, rE, rEs, rB, rV, rZ, rC, rI, rU, rT, rP, rQ, if_true, isn_int, Int.reduceEq, decide_true, Bool.false_eq_true, if_false]
      refine ⟨l2, rfl, rfl, back_ok y.2.2.2.2.1 (by omega) hr _ _ ?_⟩
      simp only [rS, rE, rEs, rB, rV, rZ, rC, rI, rU, rT, rP, rQ, if_true]
      refine ⟨rfl, rfl, last _ _ ?_⟩
      simp only [rS, rE, rEs, rB, rV, rZ, rC, rI, rU, rT, rP, rQ, if_true, decide_true]
      exact q
end
theorem u_round_so : f__law_round_so.run = evF g__law_round_so [f__law_whole, f_done] false 6 b__law_round_so := rfl
theorem round_so_ok {n : Nat} {ws : List Int} {S : List (List Int)} (y : YardOk ws n []) (st : StOk ws n S) {rs : List (List (Nat × Nat) × Int)} (hr : ∀ r ∈ rs, RunOk n [] r) {p : Nat} (p2 : p ≤ 10000) (hp : Home ws n S (rep p (allL rs))) (least : ∀ q, 1 ≤ q → q < p → ¬ Home ws n S (rep q (allL rs))) (Q : DV → List D → Prop) (X)
    (q : Q (.d (.bool true)) []) : wF (f__law_round_so.run [] [Y ws n [], SD S, .list (rs.map RD), .int p]) Q X := by
  rw [u_round_so, rF, show env0 false 6 [] [Y ws n [], SD S, .list (rs.map RD), .int p] = [.val (Y ws n []), .val (SD S), .val (.list (rs.map RD)), .val (.int p), .un, .un] from rfl]
  simp only [b__law_round_so, rS, rE, rEs, rB, rV, rZ, rC, rI, rU, rT, rP, rQ, if_true]
  refine ⟨rfl, rfl, law_whole_int p _ _ ?_⟩
  simp only [rS, rE, rEs, rB, rV, rZ, rC, rI, rU, rT, rP, rQ, if_true, Bool.not_true, Bool.false_eq_true, if_false]
  obtain ⟨M, hM, hMp, hM6⟩ : ∃ M : Nat, (if (60 : Int) < (p : Int) then (60 : Int) else (p : Int)) = (M : Int) ∧ M ≤ p ∧ M ≤ 60 := by
    by_cases h : (60 : Int) < p
    · exact ⟨60, by rw [if_pos h]; rfl, by omega, by decide⟩
    · exact ⟨p, by rw [if_neg h], Nat.le_refl _, by omega⟩
  rw [hM]
  refine ⟨?_, ?_⟩
  · rw [big_of (i := 1) (by omega) (by omega), big_of (i := (M : Int) + 1) (by omega) (by omega)]
    rfl
  rw [show ((M : Int) + 1 - 1).toNat = M by omega]
  refine for_inv (fun xs e => ∃ t : Nat, t ≤ M ∧ xs = rngI (1 + t) (M - t) ∧ ∃ s5, e = [.val (Y ws n []), .val (SD S), .val (.list (rs.map RD)), .val (.int p), .val (SD (seqR ws S (rep t (allL rs)))), s5]) (fun x r e h => ?_) (fun e h => ?_) _ _ ⟨0, Nat.zero_le _, rfl, _, rfl⟩
  · obtain ⟨t, tM, hx, s5, rfl⟩ := h
    by_cases h8 : t = M
    · subst h8
      rw [Nat.sub_self] at hx
      cases hx
    · rw [show M - t = (M - (t + 1)) + 1 by omega, rngI_head] at hx
      injection hx with hx1 hx2
      subst hx1 hx2
      simp only [rS, rE, rEs, rB, rV, rZ, rC, rI, rU, rT, rP, rQ, if_true]
      refine ⟨rfl, rfl, done_next y st hr t _ _ ?_⟩
      have hh := home_iff y.2.2.1 st (rep_ok (allL_ok hr) (t + 1))
      simp only [rS, rE, rEs, rB, rV, rZ, rC, rI, rU, rT, rP, rQ, if_true, cmp_eq_SD, cmp_ne_bb]
      have e : decide (seqR ws S (rep (t + 1) (allL rs)) = S) = decide ((1 : Int) + t = p) := by
        by_cases z : t + 1 = p
        · rw [decide_eq_true (hh.mpr (by rw [z]; exact hp)), decide_eq_true (by omega)]
        · rw [decide_eq_false (fun w => least (t + 1) (by omega) (by omega) (hh.mp w)), decide_eq_false (by omega)]
      simp only [e, beq_self_eq_true, Bool.not_true, Bool.false_eq_true, if_false]
      exact ⟨t + 1, by omega, by rw [show (1 : Int) + (t : Int) + 1 = 1 + ((t + 1 : Nat) : Int) by omega], _, rfl⟩
  · obtain ⟨t, tM, hx, s5, rfl⟩ := h
    simp only [rS, rE, rEs, rB, rV, rZ, rC, rI, rU, rT, rP, rQ, if_true]
    exact q
end K06


set_option Elab.async false
set_option linter.all false
set_option maxRecDepth 100000
set_option maxHeartbeats 4000000
namespace K06
open PySem DL
/-! lines and a ring at once -/
theorem getD_l {u v : List Int} {k : Nat} (h : k < u.length) : (u ++ v).getD k 0 = u.getD k 0 := by
  rw [List.getD_eq_getElem?_getD, List.getD_eq_getElem?_getD, List.getElem?_append_left h]
theorem getD_r {u v : List Int} {k : Nat} : (u ++ v).getD (u.length + k) 0 = v.getD k 0 := by
  rw [List.getD_eq_getElem?_getD, List.getD_eq_getElem?_getD, List.getElem?_append_right (by omega), Nat.add_sub_cancel_left]
def both (S R : List (List Int)) : List (List Int) := List.zipWith (fun u v => u ++ v) S R
theorem both_at {n m : Nat} {S R : List (List Int)} (hS : Tab n m S) (hR : Tab n 1 R) {i : Nat} (hi : i < n) : (both S R).getD i [] = S.getD i [] ++ R.getD i [] := by
  unfold both
  exact zw_at (da := []) (db := []) (by rw [hS.1]; exact hi) (by rw [hR.1]; exact hi)
theorem both_len {n m : Nat} {S R : List (List Int)} (hS : Tab n m S) (hR : Tab n 1 R) : (both S R).length = n := by
  unfold both; rw [List.length_zipWith, hS.1, hR.1, Nat.min_self]
theorem en_far {S : List (List Int)} {k i : Nat} (h : S.length ≤ i) : en S k i = 0 := by
  unfold en
  have : S.getD i [] = [] := by rw [List.getD_eq_getElem?_getD, List.getElem?_eq_none h]; rfl
  rw [this]; rfl
theorem en_left {n m k : Nat} {S R : List (List Int)} (hS : Tab n m S) (hR : Tab n 1 R) (hk : k < m) : en (both S R) k = en S k := funext fun i => by
  by_cases hi : i < n
  · unfold en
    rw [both_at hS hR hi, getD_l (by rw [row_len hS hi]; exact hk)]
  · rw [en_far (by rw [both_len hS hR]; omega), en_far (by rw [hS.1]; omega)]
theorem en_right {n m : Nat} {S R : List (List Int)} (hS : Tab n m S) (hR : Tab n 1 R) : en (both S R) m = en R 0 := funext fun i => by
  by_cases hi : i < n
  · unfold en
    have := getD_r (u := S.getD i []) (v := R.getD i []) (k := 0)
    rw [row_len hS hi] at this
    rw [both_at hS hR hi, ← this]; rfl
  · rw [en_far (by rw [both_len hS hR]; omega), en_far (by rw [hR.1]; omega)]
theorem rnd_app : ∀ (w1 u : List Int) (w2 v : List Int), u.length = w1.length → rnd (w1 ++ w2) (u ++ v) = rnd w1 u ++ rnd w2 v
  | [], [], _, _, _ => rfl
  | [], _ :: _, _, _, h => by cases h
  | _ :: _, [], _, _, h => by cases h
  | s :: w1, x :: u, w2, v, h => by
    show _ :: rnd (w1 ++ w2) (u ++ v) = _
    rw [rnd_app w1 u w2 v (by simpa using h)]
    rfl
theorem both_st {w1 w2 : List Int} {n : Nat} {S R : List (List Int)} (hS : StOk w1 n S) (hR : StOk w2 n R) : StOk (w1 ++ w2) n (both S R) := by
  refine ⟨by unfold both; rw [List.length_zipWith, hS.1, hR.1, Nat.min_self], fun z hz => ?_⟩
  obtain ⟨u, hu, v, hv, rfl⟩ := mem_zipWith hz
  have a := hS.2 u hu
  have b := hR.2 v hv
  exact ⟨by rw [List.length_append, List.length_append, a.1, b.1], by rw [rnd_app _ _ _ _ a.1, a.2, b.2]⟩
theorem both_home {m n : Nat} {s : Int} {S R : List (List Int)} {M : List (Nat × Nat)} (hS : Tab n m S) (hR : Tab n 1 R) : Home (zs m ++ [s]) n (both S R) M ↔ Home (zs m) n S M ∧ Home [s] n R M := by
  have lz : (zs m ++ [s]).length = m + 1 := by rw [List.length_append, zs_len]; rfl
  have g1 : ∀ k, k < m → (zs m ++ [s]).getD k 0 = (zs m).getD k 0 := fun k hk => getD_l (by rw [zs_len]; exact hk)
  have g2 : (zs m ++ [s]).getD m 0 = s := by
    have := getD_r (u := zs m) (v := [s]) (k := 0)
    rw [zs_len] at this
    exact this
  constructor
  · intro h
    refine ⟨fun k hk => ?_, fun k hk => ?_⟩
    · rw [zs_len] at hk
      have := h k (by rw [lz]; omega)
      rw [en_left hS hR hk, g1 k hk] at this
      exact this
    · have : k = 0 := by
        have : k < 1 := hk
        omega
      subst this
      have := h m (by rw [lz]; omega)
      rw [en_right hS hR, g2] at this
      exact this
  · rintro ⟨h1, h2⟩ k hk
    rw [lz] at hk
    by_cases hm : k < m
    · rw [en_left hS hR hm, g1 k hm]
      exact h1 k (by rw [zs_len]; exact hm)
    · have : k = m := by omega
      subst this
      rw [en_right hS hR, g2]
      exact h2 0 (by show 0 < 1; decide)
theorem both_homeL {m n : Nat} {s : Int} (s2 : 2 ≤ s) {S R : List (List Int)} {M : List (Nat × Nat)} (hS : Tab n m S) (hR : Tab n 1 R) : HomeL (zs m ++ [s]) n (both S R) M ↔ Home (zs m) n S M := by
  have lz : (zs m ++ [s]).length = m + 1 := by rw [List.length_append, zs_len]; rfl
  have g1 : ∀ k, k < m → (zs m ++ [s]).getD k 0 = (zs m).getD k 0 := fun k hk => getD_l (by rw [zs_len]; exact hk)
  have g2 : (zs m ++ [s]).getD m 0 = s := by
    have := getD_r (u := zs m) (v := [s]) (k := 0)
    rw [zs_len] at this
    exact this
  rw [← lines_L]
  constructor
  · intro h k hk hz
    rw [zs_len] at hk
    have := h k (by rw [lz]; omega) (by rw [g1 k hk]; exact hz)
    rw [en_left hS hR hk] at this
    exact this
  · intro h k hk hz
    rw [lz] at hk
    by_cases hm : k < m
    · rw [en_left hS hR hm]
      exact h k (by rw [zs_len]; exact hm) (zs_at m k)
    · have : k = m := by omega
      subst this
      rw [g2] at hz
      omega
theorem add_I (u v : List Int) (h : u.length + v.length ≤ 100) (Q : DV → Prop) : wO (bin .add (I u) (I v)) Q = Q (.d (I (u ++ v))) := by
  show wO (if (u.map PyData.int).length + (v.map PyData.int).length ≤ lim then some (DV.d (.tuple (u.map PyData.int ++ v.map PyData.int))) else none) Q = _
  rw [if_pos (by rw [List.length_map, List.length_map]; exact Nat.le_trans h (by decide)), wO_some, ← List.map_append]
  rfl
theorem zip_SD (S R : List (List Int)) (Q : List D → Prop) : wO (zipD false [SD S, SD R]) Q = Q (List.zipWith (fun u v => PyData.tuple [I u, I v]) S R) := by
  have e : zipD false [SD S, SD R] = some (zipAll [S.map I, R.map I]) := rfl
  rw [e, wO_some]
  have : zipAll [S.map I, R.map I] = List.zipWith (fun u v => PyData.tuple [I u, I v]) S R := by
    show ((S.map I).zip (R.map I)).map (fun p => PyData.tuple [p.1, p.2]) = _
    clear e
    induction S generalizing R with
    | nil => rfl
    | cons x a ih => cases R with
      | nil => rfl
      | cons y b => simp only [List.map_cons, List.zip_cons_cons, List.zipWith_cons_cons]; rw [ih]
  rw [this]
def addD (d : D) : Option D := match d with
  | .tuple [.tuple a, .tuple b] => some (.tuple (a ++ b))
  | _ => none
theorem addD_fm (S R : List (List Int)) : (List.zipWith (fun u v => PyData.tuple [I u, I v]) S R).filterMap addD = (both S R).map I := by
  rw [filterMap_zip (fun u v => PyData.tuple [I u, I v]) addD (fun u v => I (u ++ v)) fun u v => by
    show some (PyData.tuple (u.map PyData.int ++ v.map PyData.int)) = _
    rw [← List.map_append]; rfl]
  unfold both
  rw [List.map_zipWith]
theorem mul_lst {xs : List D} {k : Int} (h0 : -1000000 ≤ k) (h1 : k ≤ 1000000) (h2 : xs.length * k.toNat ≤ 100) {Q : DV → Prop} : wO (bin .mul (.list xs) (.int k)) Q = Q (.fr (rep k.toNat xs)) := by
  show wO (if -1000000 ≤ k ∧ k ≤ 1000000 ∧ xs.length * k.toNat ≤ lim then some (DV.fr (rep k.toNat xs)) else none) Q = _
  rw [if_pos ⟨h0, h1, Nat.le_trans h2 (by decide)⟩, wO_some]
theorem sl_last (xs : List D) (Q : DV → Prop) : wO (sl (.list xs) (some (-1)) none) Q = Q (.fr (xs.drop (xs.length - 1))) := by
  show Q (.fr (cut xs (some (-1)) none)) = _
  unfold cut
  rw [HT.sIx_none]
  have e : HT.sIx xs.length 0 (some (-1)) = xs.length - 1 := by
    unfold HT.sIx
    simp only []
    split <;> omega
  rw [e, List.take_of_length_le (by rw [List.length_drop]; omega)]
theorem mul_zs {m : Nat} (h1 : 1 ≤ m) (h2 : m ≤ 100) (Q : DV → Prop) : wO (bin .mul (.tuple [.int 0]) (.int m)) Q = Q (.d (I (zs m))) := by
  rw [mul_rep (m := m) rfl h1 (by omega) (by simp) (by simp)]
  have e : rep m [PyData.int 0] = (zs m).map PyData.int := by
    unfold rep zs
    rw [List.map_replicate]
    clear h1 h2
    induction m with
    | zero => rfl
    | succ m ih => rw [List.replicate_succ, List.flatten_cons, ih, List.replicate_succ]; rfl
  rw [e]
  rfl
/-- a run done thrice at most -/
def few (r : List (Nat × Nat) × Int) : List (Nat × Nat) × Int := (r.1, if 3 < r.2 then 3 else r.2)
def fewD (d : D) : Option D := match d with
  | .tuple [ls, .int t] => some (.tuple [ls, .int (if 3 < t then 3 else t)])
  | _ => none
theorem fewD_fm (rs : List (List (Nat × Nat) × Int)) : (rs.map RD).filterMap fewD = (rs.map few).map RD := by
  rw [fm_map (f := RD) (g := fewD) (h := fun r => RD (few r)) fun r _ => rfl, List.map_map]
  rfl
theorem few_ok {n : Nat} {ps : List Nat} {r : List (Nat × Nat) × Int} (h : RunOk n ps r) : RunOk n ps (few r) ∧ (few r).1.length ≤ 40 ∧ (few r).2 ≤ 3 := by
  obtain ⟨h1, h2, h3, h4, h5, h6⟩ := h
  have e : (few r).2 = if 3 < r.2 then 3 else r.2 := rfl
  have b : 1 ≤ (few r).2 ∧ (few r).2 ≤ 3 := by rw [e]; split <;> omega
  refine ⟨⟨h1, h2, h3, b.1, by omega, ?_⟩, h2, b.2⟩
  rcases h6 with h6 | h6
  · left; rw [e, h6]; decide
  · exact .inr h6
theorem nmem_told {H : Nat → Prop} {d : D} (h : Told H d) (Q : Bool → Prop) : wO (cmp .nmem d (.list [.int 1, .int 2, .none])) Q = Q false := by
  rcases h with ⟨rfl, _⟩ | ⟨rfl, _⟩ | ⟨rfl, _⟩ <;> rfl
theorem u_law : f_law.run = evF g_law [f__law_pile, f__law_take, f__law_row, f__law_swinging, f_again, f__law_lines_right, f__law_round_so, f__law_least, f_back] false 19 b_law := rfl
def bodyOf : Sxs → Sxs
  | .cons (.for_ _ _ b) _ => b
  | s => s
def t_body : Sxs := bodyOf b_law
def t_turn : Sxs := drp 7 t_body
def t_both : Sxs := drp 14 t_body
theorem both_ok {ns : List Int} {k : Int} {o : List D} {m n s p : Nat} {S R : List (List Int)} {rs : List (List (Nat × Nat) × Int)} {told hd : D} (hm1 : 1 ≤ m) (hm2 : m ≤ 2) (hn2 : 2 ≤ n) (hn5 : n ≤ 5) (s2 : 2 ≤ s) (s7 : s ≤ 7) (st : StOk (zs m) n S) (sr : StOk [(s : Int)] n R) (hB : ∀ v ∈ S, ∀ y ∈ v, y.natAbs ≤ 10000000000010) (hC : ∀ v ∈ R, ∀ y ∈ v, y.natAbs ≤ 10000000000010) (hr : ∀ r ∈ rs, RunOk n [] r) (hf : Few rs) (h5 : rs.length ≤ 5) (ht : Told (fun t => Home (zs m) n S (rep t (allL rs))) told)
    (p1 : 1 ≤ p) (p2 : p ≤ 5000) (hp : Home [(s : Int)] n R (rep p (allL rs))) (least : ∀ q, 1 ≤ q → q < p → ¬ Home [(s : Int)] n R (rep q (allL rs))) (s12 s13 s14 : Slot) (P : RS → Prop)
    (q : ∀ s12 s13 s14, P (.nx [.val (scr ns), .val (.int k), .own false o, .val (.int n), .val (Y (zs m) n []), .val (.list (rs.map RD)), .val (SD S), .val hd, .val told, .val (Y [(s : Int)] n []), .val (SD R), .val (.int p), s12, s13, s14, .un, .un, .un, .un])) :
    wS (evSs g_law [f__law_pile, f__law_take, f__law_row, f__law_swinging, f_again, f__law_lines_right, f__law_round_so, f__law_least, f_back] t_both [.val (scr ns), .val (.int k), .own false o, .val (.int n), .val (Y (zs m) n []), .val (.list (rs.map RD)), .val (SD S), .val hd, .val told, .val (Y [(s : Int)] n []), .val (SD R), .val (.int p), s12, s13, s14, .un, .un, .un, .un]) P := by
  rw [show t_both = drp 14 t_body from rfl, show t_body = bodyOf b_law from rfl]
  rw [show Y (zs m) n [] = .tuple [I (zs m), .int n, NN []] from rfl, show Y [(s : Int)] n [] = .tuple [I [(s : Int)], .int n, NN []] from rfl]
  simp only [b_law, bodyOf, drp, rS, rE, rEs, rB, rV, rZ, rC, rI, rU, rT, rP, rQ, if_true]
  have hS := st_tab st
  rw [zs_len] at hS
  have hR : Tab n 1 R := st_tab sr
  rw [add_I (zs m) [(s : Int)] (by rw [zs_len]; show m + 1 ≤ 100; omega)]
  refine ⟨l0, l3, ?_⟩
  simp only [show ∀ d, (DV.d d).fz = d from fun _ => rfl]
  rw [zip_SD]
  refine comp_pure addD rfl (fun z hz => ?_) fun e6 he => ?_
  · obtain ⟨u, hu, v, hv, rfl⟩ := mem_zipWith hz
    simp only [rS, rE, rEs, rB, rV, rZ, rC, rI, rU, rT, rP, rQ, if_true, wipeE]
    have a := hS.2 u hu
    have b := hR.2 v hv
    rw [add_I u v (by omega)]
    show some (PyData.tuple ((u ++ v).map PyData.int)) = some (.tuple (u.map PyData.int ++ v.map PyData.int))
    rw [List.map_append]
  rw [addD_fm]
  have lb : (both S R).length = n := both_len hS hR
  refine ⟨by rw [List.length_map, lb]; exact Nat.le_trans (show n ≤ 100 by omega) (by decide), ?_⟩
  have yb : YardOk (zs m ++ [(s : Int)]) n [] := ⟨by rw [List.length_append, zs_len]; show 1 ≤ m + 1; omega, by rw [List.length_append, zs_len]; show m + 1 ≤ 3; omega, fun z hz => by
    rcases List.mem_append.mp hz with h | h
    · exact zs_ways m z h
    · rw [List.mem_singleton.mp h]; omega, hn2, by omega, posts_nil (by omega)⟩
  have sb : StOk (zs m ++ [(s : Int)]) n (both S R) := both_st st sr
  have hW : ∀ z ∈ zs m ++ [(s : Int)], z ≤ 10 := fun z hz => by
    rcases List.mem_append.mp hz with h | h
    · exact zs_le m 10 z h
    · rw [List.mem_singleton.mp h]; omega
  have bb : ∀ v ∈ both S R, ∀ y ∈ v, y.natAbs ≤ 10000000000010 := fun v hv y hy => by
    obtain ⟨u, hu, w, hw, rfl⟩ := mem_zipWith hv
    rcases List.mem_append.mp hy with h | h
    · exact hB u hu y h
    · exact hC w hw y h
  have hh : ∀ M, Home (zs m ++ [(s : Int)]) n (both S R) M ↔ Home (zs m) n S M ∧ Home [(s : Int)] n R M := fun M => both_home hS hR
  have hl := lin_lt hr
  have hne := lin_ne hr
  have gR := hm_goes (P := fun t => Home [(s : Int)] n R (rep t (allL rs))) (fun a b => lines_add hl) (fun a b => lines_sub hl) p1 hp least (fun k hk => hm_zero)
  have hrb : ∀ r ∈ rs ++ bkRs rs, RunOk n [] r := fun r z => (List.mem_append.mp z).elim (hr r) (bkRs_ok hr r)
  have hfb : Few (rs ++ bkRs rs) := fun r z => (List.mem_append.mp z).elim (hf r) fun z => by
    obtain ⟨r', hr', rfl⟩ := List.mem_map.mp (List.mem_reverse.mp z)
    have := hf r' hr'
    exact ⟨by show r'.1.reverse.length ≤ 40; rw [List.length_reverse]; exact this.1, this.2⟩
  -- the row and the way back
  have wayback : ∀ Q : DV → List D → Prop, ∀ X, Q (.d (.int 1)) [] → wF (f_again.run [] [Y (zs m ++ [(s : Int)]) n [], SD (both S R), .list ((rs ++ bkRs rs).map RD)]) Q X := fun Q X q => by
    have id1 : ∀ t, Home (zs m ++ [(s : Int)]) n (both S R) (rep t (allL (rs ++ bkRs rs))) := fun t k hk => by
      rw [allL_app, allL_bk]
      have e : crun (en (both S R) k) (allL rs ++ (allL rs).reverse) = en (both S R) k := by rw [crun_app, crun_rev hne]
      have e2 : crun (en (both S R) k) (rep t (allL rs ++ (allL rs).reverse)) = en (both S R) k := by
        induction t with
        | zero => rfl
        | succ t ih => rw [rep_adds, rep_one, crun_app, ih, e]
      rw [e2]
      exact en_refl _ _ _
    refine again_val yb sb hrb hfb (by rw [List.length_append, bkRs_len]; omega) bb hW Q X (fun h => absurd ((both_homeL (by omega) hS hR).mpr ((hh _).mp (id1 2)).1) h) fun _ => ⟨1, by decide, by decide, id1 1, fun q a b => by omega, q⟩
  simp only [he, rS, rE, rEs, rB, rV, rZ, rC, rI, rU, rT, rP, rQ, if_true]
  rw [show PyData.tuple [I (zs m ++ [(s : Int)]), .int n, .tuple []] = Y (zs m ++ [(s : Int)]) n [] from rfl, show PyData.tuple ((both S R).map I) = SD (both S R) from rfl]
  have vals : ∀ c : Nat, 1 ≤ c → c ≤ 2 → (∀ q, Home (zs m) n S (rep q (allL rs)) ↔ c ∣ q) → 1 ≤ Nat.lcm c p ∧ Nat.lcm c p ≤ 10000 ∧ Home (zs m ++ [(s : Int)]) n (both S R) (rep (Nat.lcm c p) (allL rs)) ∧ ∀ q, 1 ≤ q → q < Nat.lcm c p → ¬ Home (zs m ++ [(s : Int)]) n (both S R) (rep q (allL rs)) := fun c c1 c2 gS => by
    have h1 : 0 < Nat.lcm c p := Nat.lcm_pos c1 p1
    have h2 : Nat.lcm c p ≤ c * p := Nat.le_of_dvd (Nat.mul_pos c1 p1) (Nat.lcm_dvd_mul c p)
    have h3 : c * p ≤ 2 * 5000 := Nat.mul_le_mul c2 p2
    refine ⟨h1, by omega, (hh _).mpr ⟨(gS _).mpr (Nat.dvd_lcm_left c p), (gR _).mpr (Nat.dvd_lcm_right c p)⟩, fun q q1 q2 z => ?_⟩
    have z := (hh _).mp z
    have := Nat.le_of_dvd q1 (Nat.lcm_dvd ((gS _).mp z.1) ((gR _).mp z.2))
    omega
  rcases ht with ⟨rfl, a1⟩ | ⟨rfl, a1, a2⟩ | ⟨rfl, a1, a2⟩
  · simp only [rS, rE, rEs, rB, rV, rZ, rC, rI, rU, rT, rP, rQ, if_true, Bool.false_eq_true, if_false]
    refine ⟨rfl, rfl, least_ok (a := 1) (by decide) (by decide) _ _ ?_⟩
    simp only [rS, rE, rEs, rB, rV, rZ, rC, rI, rU, rT, rP, rQ, if_true, Bool.false_eq_true, if_false]
    refine ⟨l2, rfl, rfl, again_val yb sb hr hf (by omega) bb hW _ _ (fun _ => ?_) fun h => absurd ((both_homeL (by omega) hS hR).mp h) a1⟩
    simp only [rS, rE, rEs, rB, rV, rZ, rC, rI, rU, rT, rP, rQ, if_true, cmp_ne_self (layN_none 0) (show 0 ≤ 64 by decide), Bool.false_eq_true, if_false]
    refine ⟨rfl, rfl, back_ok (show n ≤ 6 by omega) (by omega) hr _ _ ?_⟩
    simp only [rS, rE, rEs, rB, rV, rZ, rC, rI, rU, rT, rP, rQ, if_true]
    rw [← List.map_append]
    refine ⟨by rw [List.length_map, List.length_map, bkRs_len]; exact Nat.le_trans (show rs.length + rs.length ≤ 100 by omega) (by decide), rfl, rfl, wayback _ _ ?_⟩
    simp only [rS, rE, rEs, rB, rV, rZ, rC, rI, rU, rT, rP, rQ, if_true, decide_true, Bool.not_true, Bool.false_eq_true, if_false]
    exact q _ _ _
  · simp only [rS, rE, rEs, rB, rV, rZ, rC, rI, rU, rT, rP, rQ, if_true, Bool.false_eq_true, if_false, show (((1 : Int)) != 0) = true from rfl, notn_int]
    refine ⟨rfl, rfl, least_ok (a := 1) (by decide) (by decide) _ _ ?_⟩
    have v := vals 1 (by decide) (by decide) (hm_goes (P := fun t => Home (zs m) n S (rep t (allL rs))) (fun a b => lines_add hl) (fun a b => lines_sub hl) (p := 1) (by decide) a1 (fun q a b => by omega) (fun k hk => hm_zero))
    generalize Nat.lcm 1 p = c at v ⊢
    simp only [rS, rE, rEs, rB, rV, rZ, rC, rI, rU, rT, rP, rQ, if_true, Bool.false_eq_true, if_false, notn_int]
    refine ⟨l2, rfl, rfl, again_val yb sb hr hf (by omega) bb hW _ _ (fun h => absurd ((both_homeL (by omega) hS hR).mpr a2) h) fun _ => ⟨c, v.1, v.2.1, v.2.2.1, v.2.2.2, ?_⟩⟩
    simp only [rS, rE, rEs, rB, rV, rZ, rC, rI, rU, rT, rP, rQ, if_true, cmp_ne_self (layN_int 0 (c : Int)) (show 0 ≤ 64 by decide), Bool.false_eq_true, if_false]
    refine ⟨rfl, rfl, back_ok (show n ≤ 6 by omega) (by omega) hr _ _ ?_⟩
    simp only [rS, rE, rEs, rB, rV, rZ, rC, rI, rU, rT, rP, rQ, if_true]
    rw [← List.map_append]
    refine ⟨by rw [List.length_map, List.length_map, bkRs_len]; exact Nat.le_trans (show rs.length + rs.length ≤ 100 by omega) (by decide), rfl, rfl, wayback _ _ ?_⟩
    simp only [rS, rE, rEs, rB, rV, rZ, rC, rI, rU, rT, rP, rQ, if_true, decide_true, Bool.not_true, Bool.false_eq_true, if_false]
    exact q _ _ _
  · simp only [rS, rE, rEs, rB, rV, rZ, rC, rI, rU, rT, rP, rQ, if_true, Bool.false_eq_true, if_false, show (((2 : Int)) != 0) = true from rfl, notn_int]
    refine ⟨rfl, rfl, least_ok (a := 2) (by decide) (by decide) _ _ ?_⟩
    have v := vals 2 (by decide) (by decide) (hm_goes (P := fun t => Home (zs m) n S (rep t (allL rs))) (fun a b => lines_add hl) (fun a b => lines_sub hl) (p := 2) (by decide) a1 (fun q a b => by rw [show q = 1 by omega]; exact a2) (fun k hk => hm_zero))
    generalize Nat.lcm 2 p = c at v ⊢
    simp only [rS, rE, rEs, rB, rV, rZ, rC, rI, rU, rT, rP, rQ, if_true, Bool.false_eq_true, if_false, notn_int]
    refine ⟨l2, rfl, rfl, again_val yb sb hr hf (by omega) bb hW _ _ (fun h => absurd ((both_homeL (by omega) hS hR).mpr a1) h) fun _ => ⟨c, v.1, v.2.1, v.2.2.1, v.2.2.2, ?_⟩⟩
    simp only [rS, rE, rEs, rB, rV, rZ, rC, rI, rU, rT, rP, rQ, if_true, cmp_ne_self (layN_int 0 (c : Int)) (show 0 ≤ 64 by decide), Bool.false_eq_true, if_false]
    refine ⟨rfl, rfl, back_ok (show n ≤ 6 by omega) (by omega) hr _ _ ?_⟩
    simp only [rS, rE, rEs, rB, rV, rZ, rC, rI, rU, rT, rP, rQ, if_true]
    rw [← List.map_append]
    refine ⟨by rw [List.length_map, List.length_map, bkRs_len]; exact Nat.le_trans (show rs.length + rs.length ≤ 100 by omega) (by decide), rfl, rfl, wayback _ _ ?_⟩
    simp only [rS, rE, rEs, rB, rV, rZ, rC, rI, rU, rT, rP, rQ, if_true, decide_true, Bool.not_true, Bool.false_eq_true, if_false]
    exact q _ _ _
theorem turn_ok {ns : List Int} {k : Int} {o : List D} (po : Pile o) {m n : Nat} {S : List (List Int)} {rs : List (List (Nat × Nat) × Int)} (hm1 : 1 ≤ m) (hm2 : m ≤ 2) (hn2 : 2 ≤ n) (hn5 : n ≤ 5) (st : StOk (zs m) n S) (hB : ∀ v ∈ S, ∀ y ∈ v, y.natAbs ≤ 10000000000010) (hr : ∀ r ∈ rs, RunOk n [] r) (hf : Few rs) (h5 : rs.length ≤ 5) (s8 s9 s10 s11 s12 s13 s14 : Slot) (P : RS → Prop)
    (q : ∀ o s7 s8 s9 s10 s11 s12 s13 s14, Pile o → P (.nx [.val (scr ns), .val (.int k), .own false o, .val (.int n), .val (Y (zs m) n []), .val (.list (rs.map RD)), .val (SD S), s7, s8, s9, s10, s11, s12, s13, s14, .un, .un, .un, .un])) :
    wS (evSs g_law [f__law_pile, f__law_take, f__law_row, f__law_swinging, f_again, f__law_lines_right, f__law_round_so, f__law_least, f_back] t_turn [.val (scr ns), .val (.int k), .own false o, .val (.int n), .val (Y (zs m) n []), .val (.list (rs.map RD)), .val (SD S), .val (.list (rs.map RD)), s8, s9, s10, s11, s12, s13, s14, .un, .un, .un, .un]) P := by
  have y : YardOk (zs m) n [] := ⟨by rw [zs_len]; exact hm1, by rw [zs_len]; omega, zs_ways m, hn2, by omega, posts_nil (by omega)⟩
  have eB : drp 7 t_turn = t_both := rfl
  rw [split_at _ _ _ 7 t_turn, eB]
  have both := @both_ok ns k
  generalize t_both = B at both ⊢
  rw [show t_turn = drp 7 t_body from rfl, show t_body = bodyOf b_law from rfl]
  simp only [b_law, bodyOf, drp, tk, rS, rE, rEs, rB, rV, rZ, rC, rI, rU, rT, rP, rQ, if_true]
  refine ⟨rfl, rfl, again_lines y st hr hf (by omega) hB _ _ fun told ht => ?_⟩
  simp only [rS, rE, rEs, rB, rV, rZ, rC, rI, rU, rT, rP, rQ, if_true, cmp_ne_self (lay_row rs) (show 4 ≤ 64 by decide), Bool.false_eq_true, if_false, nmem_told ht]
  refine ⟨l3, rfl, rfl, lines_right_ok y st hr hf h5 hB ht _ _ ?_⟩
  simp only [rS, rE, rEs, rB, rV, rZ, rC, rI, rU, rT, rP, rQ, if_true, Bool.not_true, Bool.false_eq_true, if_false]
  refine ⟨rfl, rfl, take_ok po (by decide) (by decide) _ _ fun s o s0 s6 po => ?_⟩
  obtain ⟨s, hs, s2, s7⟩ : ∃ s' : Nat, 2 + s = (s' : Int) ∧ 2 ≤ s' ∧ s' ≤ 7 := ⟨(2 + s).toNat, by omega, by omega, by omega⟩
  simp only [rS, rE, rEs, rB, rV, rZ, rC, rI, rU, rT, rP, rQ, if_true, hs]
  refine ⟨l1, l0, l3, ?_⟩
  have yr : YardOk [(s : Int)] n [] := ⟨by show 1 ≤ 1; decide, by show 1 ≤ 3; decide, fun z hz => by rw [List.mem_singleton.mp hz]; omega, hn2, by omega, posts_nil (by omega)⟩
  rw [show PyData.tuple [.int (s : Int)] = I [(s : Int)] from rfl]
  refine ⟨rfl, rfl, swinging_ok po (by show 1 ≤ 1; decide) (by show 1 ≤ 100; decide) hn2 (by omega) (W := 10) (fun z hz => by rw [List.mem_singleton.mp hz]; omega) _ _ fun R o sr hC po => ?_⟩
  simp only [rS, rE, rEs, rB, rV, rZ, rC, rI, rU, rT, rP, rQ, if_true]
  have one : ∀ t, Hm n (s : Int) (en R 0) (allL rs) t → Home [(s : Int)] n R (rep t (allL rs)) := fun t h k hk => by
    have : k = 0 := by
      have : k < 1 := hk
      omega
    subst this
    exact h
  obtain ⟨p0, a1, a2, a3⟩ := hm_ring (x := en R 0) (s := (s : Int)) (lin_lt hr) (lin_ne hr) hn5 (by omega) (by omega)
  obtain ⟨p, p1, p2, p3, p4⟩ := least_one (P := fun p => Home [(s : Int)] n R (rep p (allL rs))) a1 (one _ a3)
  rw [show PyData.tuple [I [(s : Int)], .int n, .tuple []] = Y [(s : Int)] n [] from rfl]
  refine ⟨rfl, rfl, again_val yr sr hr hf (by omega) hC (fun z hz => by rw [List.mem_singleton.mp hz]; omega) _ _ (fun h => absurd (fun k hk hz => ?_) h) fun _ => ⟨p, p1, by omega, p3, p4, ?_⟩⟩
  · have : k = 0 := by
      have : k < 1 := hk
      omega
    subst this
    have hz : (s : Int) = 0 := hz
    omega
  simp only [rS, rE, rEs, rB, rV, rZ, rC, rI, rU, rT, rP, rQ, if_true]
  refine ⟨rfl, rfl, round_so_ok yr sr hr (by omega) p3 p4 _ _ ?_⟩
  simp only [rS, rE, rEs, rB, rV, rZ, rC, rI, rU, rT, rP, rQ, if_true, Bool.not_true, Bool.false_eq_true, if_false]
  exact both hm1 hm2 hn2 hn5 s2 s7 st sr hB hC hr hf h5 ht p1 (by omega) p3 p4 _ _ _ _ fun _ _ _ => q _ _ _ _ _ _ _ _ _ po
end K06


set_option Elab.async false
set_option linter.all false
set_option maxRecDepth 100000
set_option maxHeartbeats 4000000
namespace K06
open PySem DL
theorem law_ok (ns : List Int) : wF (f_law.run [] [scr ns]) (fun v _ => v = .d (.bool true)) fun _ _ _ => False := by
  rw [u_law, rF, show env0 false 19 [] [scr ns] = [.val (scr ns), .un, .un, .un, .un, .un, .un, .un, .un, .un, .un, .un, .un, .un, .un, .un, .un, .un, .un] from rfl]
  rw [show b_law = .cons (.for_ (.nm 1) (.rng (.cons (.lit (.int 8)) .nil)) t_body) (.cons (.ret (.lit (.bool true))) .nil) from rfl]
  have eT : drp 7 t_body = t_turn := rfl
  simp only [rS, rE, rEs, rB, rV, rZ, rC, rI, rU, rT, rP, rQ, if_true]
  refine ⟨by decide, ?_⟩
  refine for_inv (fun r e => ∃ s1 s2 s3 s4 s5 s6 s7 s8 s9 s10 s11 s12 s13 s14, (∀ x ∈ r, ∃ k : Int, x = .int k ∧ 0 ≤ k ∧ k ≤ 100) ∧ e = [.val (scr ns), s1, s2, s3, s4, s5, s6, s7, s8, s9, s10, s11, s12, s13, s14, .un, .un, .un, .un]) (fun x r e h => ?_) (fun e h => ?_) _ _ ⟨_, _, _, _, _, _, _, _, _, _, _, _, _, _, fun x hx => ?_, rfl⟩
  rotate_left
  · obtain ⟨s1, s2, s3, s4, s5, s6, s7, s8, s9, s10, s11, s12, s13, s14, _, rfl⟩ := h
    simp only [rS, rE, rEs, rB, rV, rZ, rC, rI, rU, rT, rP, rQ, if_true]
  · rw [show (8 : Int).toNat = 8 from rfl, rng0] at hx
    obtain ⟨k, hk, rfl⟩ := List.mem_map.mp hx
    have := List.mem_range.mp hk
    exact ⟨(k : Int), rfl, by omega, by omega⟩
  obtain ⟨s1, s2, s3, s4, s5, s6, s7, s8, s9, s10, s11, s12, s13, s14, hr, rfl⟩ := h
  obtain ⟨k, rfl, k1, k2⟩ := hr x List.mem_cons_self
  have hr := fun y h => hr y (List.mem_cons_of_mem _ h)
  simp only [rS, rE, rEs, rB, rV, rZ, rC, rI, rU, rT, rP, rQ, if_true]
  rw [split_at _ _ _ 7 t_body, eT]
  have turn := @turn_ok ns k
  generalize t_turn = T at turn ⊢
  simp only [t_body, bodyOf, b_law, tk, rS, rE, rEs, rB, rV, rZ, rC, rI, rU, rT, rP, rQ, if_true]
  refine ⟨rfl, rfl, pile_ok ns k1 k2 _ _ fun o p => ?_⟩
  simp only [rS, rE, rEs, rB, rV, rZ, rC, rI, rU, rT, rP, rQ, if_true]
  refine ⟨rfl, rfl, take_ok p (by decide) (by decide) _ _ fun a o a1 a2 p => ?_⟩
  obtain ⟨n, hn, n2, n5⟩ : ∃ n : Nat, 2 + a = (n : Int) ∧ 2 ≤ n ∧ n ≤ 5 := ⟨(2 + a).toNat, by omega, by omega, by omega⟩
  simp only [rS, rE, rEs, rB, rV, rZ, rC, rI, rU, rT, rP, rQ, if_true, hn]
  refine ⟨l1, rfl, rfl, take_ok p (by decide) (by decide) _ _ fun b o b1 b2 p => ?_⟩
  obtain ⟨m, hm, m1, m2⟩ : ∃ m : Nat, 1 + b = (m : Int) ∧ 1 ≤ m ∧ m ≤ 2 := ⟨(1 + b).toNat, by omega, by omega, by omega⟩
  simp only [rS, rE, rEs, rB, rV, rZ, rC, rI, rU, rT, rP, rQ, if_true, hm, mul_zs m1 (show m ≤ 100 by omega)]
  refine ⟨l0, l3, ?_⟩
  rw [show PyData.tuple [I (zs m), .int n, .tuple []] = .tuple [I (zs m), .int n, NN []] from rfl]
  refine ⟨rfl, rfl, row_ok (ws := zs m) p n2 (by omega) (posts_nil (by omega)) (by decide) (by decide) _ _ fun rs o hl hro p => ?_⟩
  simp only [rS, rE, rEs, rB, rV, rZ, rC, rI, rU, rT, rP, rQ, if_true]
  refine comp_pure fewD rfl (fun z hz => ?_) fun e6 he => ?_
  · obtain ⟨r, hr', rfl⟩ := List.mem_map.mp hz
    simp only [RD, rS, rE, rEs, rB, rV, rZ, rC, rI, rU, rT, rP, rQ, if_true, wipeE]
    exact ⟨l2, rfl⟩
  rw [fewD_fm]
  have ll : ((rs.map few).map RD).length ≤ 4 := by rw [List.length_map, List.length_map]; omega
  have hro' : ∀ r ∈ rs.map few, RunOk n [] r ∧ r.1.length ≤ 40 ∧ r.2 ≤ 3 := fun r h => by
    obtain ⟨r', h1, rfl⟩ := List.mem_map.mp h
    exact few_ok (hro r' h1)
  generalize rs.map few = rs at ll hro' ⊢
  refine ⟨Nat.le_trans ll (by decide), ?_⟩
  simp only [he, rS, rE, rEs, rB, rV, rZ, rC, rI, rU, rT, rP, rQ, if_true]
  refine ⟨rfl, rfl, swinging_ok p (by rw [zs_len]; exact m1) (by rw [zs_len]; omega) n2 (by omega) (W := 10) (zs_le m 10) _ _ fun S o st hB p => ?_⟩
  simp only [rS, rE, rEs, rB, rV, rZ, rC, rI, rU, rT, rP, rQ, if_true, sl_last]
  refine ⟨rfl, rfl, take_ok p (by decide) (by decide) _ _ fun c o c1 c2 p => ?_⟩
  simp only [rS, rE, rEs, rB, rV, rZ, rC, rI, rU, rT, rP, rQ, if_true]
  have hd : ((rs.map RD).drop ((rs.map RD).length - 1)).length ≤ 1 := by rw [List.length_drop]; omega
  have hm' : c.toNat ≤ 1 := by omega
  rw [mul_lst (by omega) (by omega) (by
    have := Nat.mul_le_mul hd hm'
    omega)]
  have e1 : rep c.toNat ((rs.map RD).drop ((rs.map RD).length - 1)) = (rep c.toNat (rs.drop (rs.length - 1))).map RD := by
    rw [List.length_map, ← List.map_drop, rep_map]
  have e2 : (rep c.toNat (rs.drop (rs.length - 1))).length ≤ 1 := by
    rw [rep_len]
    rw [List.length_map, ← List.map_drop, List.length_map] at hd
    have := Nat.mul_le_mul hm' hd
    omega
  rw [e1]
  have e3 : ∀ r ∈ rep c.toNat (rs.drop (rs.length - 1)), RunOk n [] r ∧ r.1.length ≤ 40 ∧ r.2 ≤ 3 := fun r h => hro' r (List.mem_of_mem_drop (rep_mem h))
  generalize rep c.toNat (rs.drop (rs.length - 1)) = R at e2 e3 ⊢
  simp only [rS, rE, rEs, rB, rV, rZ, rC, rI, rU, rT, rP, rQ, if_true]
  rw [← List.map_append]
  have e4 : ∀ r ∈ rs ++ R, RunOk n [] r ∧ r.1.length ≤ 40 ∧ r.2 ≤ 3 := fun r h => (List.mem_append.mp h).elim (hro' r) (e3 r)
  have ll4 : rs.length ≤ 4 := by rw [List.length_map] at ll; exact ll
  refine ⟨by rw [List.length_map, List.length_map]; exact Nat.le_trans (show rs.length + R.length ≤ 100 by omega) (by decide), ?_⟩
  refine turn p m1 m2 n2 n5 st hB (rs := rs ++ R) (fun r h => (e4 r h).1) (fun r h => (e4 r h).2) (by rw [List.length_append]; omega) _ _ _ _ _ _ _ _ fun o s7 s8 s9 s10 s11 s12 s13 s14 p => ?_
  exact ⟨_, _, _, _, _, _, _, _, _, _, _, _, _, _, hr, rfl⟩
theorem law_true (ns : List Int) (_ : ns.length ≤ 63) : ∃ o, f_law.run [] [.dict [(.none, .list (ns.map PyData.int))]] = .ret (.d (.bool true)) o := wF_true (law_ok ns)
end K06


set_option maxRecDepth 100000 in
set_option maxHeartbeats 0 in
theorem PySem.Challenge.cw_leapfolk_k75_whole_the_second_time_or_ne_holds : PySem.Challenge.rw_leapfolk_k75_whole_the_second_time_or_ne.Holds := by
  exact K06.head K06.law_true
