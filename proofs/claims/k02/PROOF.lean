import PyProof.Rows.All
import Wide.All
import OpenK.AllK
import Wide.FinOn
import PyProof.EqAt
import PyProof.EqKinds
import PyProof.TupleCall
import HandS.ForMost
import HandS.Walk
import HandS.Exc
import HandS.HeadHook1
import HandS.HeadHook2
import HandS.TupAny
import HandS.Deep
import HandS.Wide
import HandS.Flow
import HandS.IsInst
import HandS.Star
import HandS.Style
import HandS.CallSlots
import HandS.Defaults
import HandS.Zip
import HandS.WordsExc
import HandS.Head0
import HandS.Head1
import HandS.Head2
import HandS.HeadEnd
import HandS.Text
import HandS.RaiseMore
import HandS.MakeKw
import HandS.Property
import KE.GoesMore
import KE.KDictSum
import KE.KDictCopyH
import KE.KDictWalk
import HandS.MakeKwOnly
import HandS.Conv
import HandS.ClsMeth
import HandS.HeadNt
import KE.SortData
import HandS.OwnEq
import PyProof.InstNe
import HandS.FStr
import HandS.More
import HandS.TupLen
import KE.KParD
import KE.KStar
import PySem.Challenge.RW_tracktally_k02_wheels_made
set_option Elab.async false
set_option linter.all false
set_option maxRecDepth 100000
set_option maxHeartbeats 0
/-! DS0: plain data, what it stands for over the heap, the judgements. -/
namespace DS
open PySem PySem.Spec L2
inductive BT where
  | non | bl | int | str | tup | lst | dic
  deriving DecidableEq
def BT.nm : BT → String
  | .non => "NoneType" | .bl => "bool" | .int => "int" | .str => "str" | .tup => "tuple" | .lst => "list" | .dic => "dict"
def BT.cd : BT → Nat
  | .non => 0 | .bl => 1 | .int => 2 | .str => 3 | .tup => 4 | .lst => 5 | .dic => 6
/-! ### the head's facts: defs at any address; any further tests -/
structure DefM where
  adr : PySem.W.Frag → Addr
  nm : Str
  qn : Str
  st : Stmt
  dfl : List He.Dv := []
  kwd : List (Str × He.Dv) := []
def fnAt (K : PySem.W.Frag) (a : Addr) : He.FnW := match K.lookup a with
  | some ⟨_, _, .func g, _⟩ => some (g.name, g.qualname, g.params, g.body, g.scope, g.globals, g.closure, g.builtins)
  | _ => none
def DefM.due (d : DefM) : He.FnW := some (d.nm, d.qn, defArgs d.st, .stmts (defBody d.st), defScope d.st, mainGlobals, [], builtinsNs)
def DefM.dvs (K : PySem.W.Frag) (d : DefM) : List V := d.dfl.map (He.Dv.v K)
def DefM.kws (K : PySem.W.Frag) (d : DefM) : List (Str × V) := d.kwd.map fun q => (q.1, q.2.v K)
def DefM.fine (K : PySem.W.Frag) (d : DefM) : Bool := PySem.W.keepIn K (.ref (d.adr K)) && (match K.lookup (d.adr K) with
  | some ⟨_, _, .func g, _⟩ => PySem.W.codeIn K g.code d.qn && (He.dflB K g.defaults (DefM.dvs K d) && He.kwdB K g.kwdefaults (DefM.kws K d))
  | _ => false)
theorem DefM.funD {K : PySem.W.Frag} {d : DefM} (e : fnAt K (d.adr K) = d.due) (c : d.fine K = true) : ∃ fd, FunD K d.nm d.qn (defArgs d.st) (defBody d.st) (defScope d.st) (d.dvs K) (d.kws K) (d.adr K) fd := by
  unfold DefM.fine at c
  rw [Bool.and_eq_true] at c
  obtain ⟨kp, c⟩ := c
  unfold fnAt at e
  cases q : K.lookup (d.adr K) with
  | none => rw [q] at c; cases c
  | some o =>
    obtain ⟨oc, od, dt, osl⟩ := o
    rw [q] at c e
    cases dt with
    | func g =>
      obtain ⟨m1, m2, m3, m4, m5, m6, m7, m8, m9, m10, m11, m12, m13, m14, m15⟩ := g
      have e2 : ((some (m1, m2, m3, m4, m5, m6, m7, m15)) : He.FnW) = some (d.nm, d.qn, defArgs d.st, .stmts (defBody d.st), defScope d.st, mainGlobals, [], builtinsNs) := e
      simp only [Option.some.injEq, Prod.mk.injEq] at e2
      obtain ⟨rfl, rfl, rfl, rfl, rfl, rfl, rfl, rfl⟩ := e2
      have c3 : (PySem.W.codeIn K m13 d.qn && (He.dflB K m8 (DefM.dvs K d) && He.kwdB K m9 (DefM.kws K d))) = true := c
      rw [Bool.and_eq_true, Bool.and_eq_true] at c3
      obtain ⟨c4, c5, c6⟩ := c3
      exact ⟨_, ⟨oc, od, m8, m9, m10, m11, m12, m13, m14, osl, rfl, q, c4, He.dflB_ok c5, He.kwdB_ok c6⟩, kp⟩
    | _ => cases c
abbrev AlM : Type := Bool × List He.FnW
def obsM (ex : PySem.W.Frag → List Bool) (ds : List DefM) (K : PySem.W.Frag) : AlM := ((ex K).all id && ds.all (DefM.fine K), ds.map fun d => fnAt K (d.adr K))
def dueM (ds : List DefM) : AlM := (true, ds.map DefM.due)
def SaysM (ex : PySem.W.Frag → List Bool) (ds : List DefM) (K : PySem.W.Frag) : Prop := obsM ex ds K = dueM ds
section
variable {ex : PySem.W.Frag → List Bool} {ds : List DefM} {K : PySem.W.Frag}
theorem SaysM.fact (c : SaysM ex ds K) (i : Nat) {b : Bool} (h : (ex K)[i]? = some b) : b = true := by
  have c1 : ((ex K).all id && ds.all (DefM.fine K)) = true := congrArg (fun z : AlM => z.1) c
  rw [Bool.and_eq_true] at c1
  exact List.all_eq_true.mp c1.1 b (List.mem_of_getElem? h)
theorem SaysM.def_ (c : SaysM ex ds K) (i : Nat) {d : DefM} (h : ds[i]? = some d) : ∃ fd, FunD K d.nm d.qn (defArgs d.st) (defBody d.st) (defScope d.st) (d.dvs K) (d.kws K) (d.adr K) fd := by
  have c1 : ((ex K).all id && ds.all (DefM.fine K)) = true := congrArg (fun z : AlM => z.1) c
  rw [Bool.and_eq_true] at c1
  have e : ds.map (fun d => fnAt K (d.adr K)) = ds.map DefM.due := congrArg (fun z : AlM => z.2) c
  have e2 : (ds.map fun d => fnAt K (d.adr K))[i]? = (ds.map DefM.due)[i]? := by rw [e]
  rw [List.getElem?_map, List.getElem?_map, h] at e2
  exact DefM.funD (Option.some.inj e2) (List.all_eq_true.mp c1.2 d (List.mem_of_getElem? h))
end
/-! ### facts of classes -/
def insB (K : PySem.W.Frag) (x : Str) : Bool := (He.Fa.cls x).ok K && (decide (PySem.W.findIn K (.ref (He.ga K x)) "__class__" = some (some (.builtin "object.__class__"))) && (decide (PySem.W.specialIn K (.builtin "object.__class__") "__get__" = some (some (.builtin "getset_descriptor.__get__"))) &&
  (decide (PySem.W.takesIn K (.builtin "object.__class__") = some true) && decide (PySem.W.mroIn K (He.ga K x) (.type "object") = some true))))
def kitB (K : PySem.W.Frag) (v u : Value) (b : Bool) : Bool := decide (PySem.W.kitOne K v u = some b)
/-- a property's object, its getter -/
def prA (K : PySem.W.Frag) (x m : Str) : Addr := He.ma K (He.ga K x) m
def prG (K : PySem.W.Frag) (x m : Str) : Addr := match PySem.W.recIn K (prA K x m) "property" with
  | some (.ref g :: _) => g
  | _ => 0
def recB (r : Option (List Value)) (g : Addr) : Bool := match r with
  | some (.ref a :: _) => decide (a = g)
  | _ => false
def propB (K : PySem.W.Frag) (x m : Str) : Bool := decide (PySem.W.findIn K (.ref (He.ga K x)) m = some (some (.ref (prA K x m)))) && (decide (PySem.W.specialIn K (.ref (prA K x m)) "__get__" = some (some (.builtin "property.__get__"))) &&
  (decide (PySem.W.takesIn K (.ref (prA K x m)) = some true) && recB (PySem.W.recIn K (prA K x m) "property") (prG K x m)))
def kitBs (K : PySem.W.Frag) (x : Str) : Bool := [BT.non, .bl, .int, .str, .tup, .lst, .dic].all fun b => kitB K (.type b.nm) (.ref (He.ga K x)) false
def kitCs (K : PySem.W.Frag) (cn : List Str) (hs : List Nat) (x : Str) (l : List Nat) : Bool := hs.all fun c => match cn[c]? with
  | some m => kitB K (.ref (He.ga K m)) (.ref (He.ga K x)) (l.contains c)
  | none => true
def kitTs (K : PySem.W.Frag) (cn : List Str) (hs : List Nat) (n : String) : Bool := hs.all fun c => match cn[c]? with
  | some m => kitB K (.ref (He.ga K m)) (.type n) false
  | none => true
def CNL : List Str := (("Wheel" : PySem.Str) :: ("Table" : PySem.Str) :: ("Rig" : PySem.Str) :: ("Graph" : PySem.Str) :: ("Turning" : PySem.Str) :: ("Shelf" : PySem.Str) :: ("Desk" : PySem.Str) :: ("Paper" : PySem.Str) :: ("Closed" : PySem.Str) :: ("Played" : PySem.Str) :: ("Bounded" : PySem.Str) :: ("Runaway" : PySem.Str) :: ("Quiet" : PySem.Str) :: ("Cried" : PySem.Str) :: ("Watch" : PySem.Str) :: ("Missed" : PySem.Str) :: ("Alike" : PySem.Str) :: ("Parted" : PySem.Str) :: ("TallyError" : PySem.Str) :: ("Missing" : PySem.Str) :: ("NothingLeft" : PySem.Str) :: ("InvalidSize" : PySem.Str) :: ("InvalidTrack" : PySem.Str) :: ("InvalidShiver" : PySem.Str) :: ("InvalidWorn" : PySem.Str) :: ("InvalidSight" : PySem.Str) :: ("InvalidDeed" : PySem.Str) :: ("InvalidRow" : PySem.Str) :: ("DuplicateRow" : PySem.Str) :: ("InvalidPace" : PySem.Str) :: ("InvalidPatience" : PySem.Str) :: ("SizesDiffer" : PySem.Str) :: ("TracksDiffer" : PySem.Str) :: ("RigsDiffer" : PySem.Str) :: ("InvalidStep" : PySem.Str) :: ("InvalidSide" : PySem.Str) :: ("InvalidWish" : PySem.Str) :: ("InvalidCount" : PySem.Str) :: ("InvalidOption" : PySem.Str) :: ("InvalidText" : PySem.Str) :: ("InvalidName" : PySem.Str) :: ("DuplicateName" : PySem.Str) :: ("InvalidCommand" : PySem.Str) :: ("InvalidLimit" : PySem.Str) :: ("CapacityExceeded" : PySem.Str) :: ("TooMany" : PySem.Str) :: ("UnknownName" : PySem.Str) :: [])
def as1 (g : Addr → Option Obj) (nms : List Str) : List Addr := mainGlobals :: (match g mainGlobals with
  | some o => (match o.data with
    | .dict es _ => es.toList.flatMap fun e => if (nms.any fun x => e.key.isStr x) = true then He.refV e.val else []
    | _ => [])
  | none => [])
/-- a text of our kind: plain signs, not too long -/
def strB (x : List Nat) : Bool := x.all (fun c => decide (c < 128)) && decide (x.length ≤ 16777216)
def as1X (g : Addr → Option Obj) (nms : List Str) : List Addr := PySem.cStatics :: as1 g nms
def cvB (K : PySem.W.Frag) (x m : Str) (n : Int) : Bool := PySem.W.readsIn K (He.ga K x) (.type "type") && (match PySem.W.findCls K (.ref (He.ga K x)) (.type "type") m with
  | some (.val (.int i _)) => i == n
  | _ => false)
def eqFB (K : PySem.W.Frag) (x : Str) : Bool := decide (PySem.W.findIn K (.ref (He.ga K x)) "__eq__" = some (some (.ref (He.ma K (He.ga K x) "__eq__")))) && (PySem.W.isFn K (.ref (He.ma K (He.ga K x) "__eq__")) &&
  (decide (PySem.W.findIn K (.ref (He.ga K x)) "__ne__" = some (some (.builtin "object.__ne__"))) && decide (PySem.W.subIn K (.ref (He.ga K x)) (.type "object") = some true)))
def nfB (K : PySem.W.Frag) (cn : List Str) (hs : List Nat) (x : Str) : Bool := ([BT.non, .bl, .int, .str, .tup, .lst, .dic].all fun b => PySem.W.notFirst K (He.ga K x) (.type b.nm)) && hs.all fun c => match cn[c]? with
  | some m => PySem.W.notFirst K (He.ga K x) (.ref (He.ga K m))
  | none => true
def spFB (K : PySem.W.Frag) (x mnm : Str) : Bool := decide (PySem.W.findIn K (.ref (He.ga K x)) mnm = some (some (.ref (He.ma K (He.ga K x) mnm)))) && PySem.W.isFn K (.ref (He.ma K (He.ga K x) mnm))
/-! the addresses within n rounds of the chosen names' values, each once: a number's bits tell which are there -/
def refsB (g : Addr → Option Obj) (a : Addr) : List Addr := match (Nat.beq a mainGlobals || Nat.beq a PySem.cStatics) with
  | true => []
  | false => (match g a with
    | some o => He.refsD o
    | none => [])
noncomputable def goF (xs : List Addr) : Nat → List Addr → (Nat → List Addr → List Addr) → List Addr :=
  List.rec (motive := fun _ => Nat → List Addr → (Nat → List Addr → List Addr) → List Addr) (fun vis acc k => k vis acc)
    (fun x _ ih vis acc k => match Nat.beq (Nat.land (Nat.shiftRight vis x) 1) 1 with
      | true => ih vis acc k
      | false => ih (Nat.lor vis (Nat.shiftLeft 1 x)) (x :: acc) k) xs
noncomputable def levF (g : Addr → Option Obj) (n : Nat) : Nat → List Addr → List Addr → List Addr :=
  Nat.rec (motive := fun _ => Nat → List Addr → List Addr → List Addr) (fun _ fr all => fr ++ all)
    (fun _ ih vis fr all => goF (fr.flatMap (refsB g)) vis [] fun vis' fr' => ih vis' fr' (fr ++ all)) n
noncomputable def asF (g : Addr → Option Obj) (rs : List Addr) (n : Nat) : List Addr := goF rs 0 [] fun vis fr => levF g n vis fr []
def obsHG (as : (Addr → Option Obj) → List Addr) (ex : PySem.W.Frag → List Bool) (ds : List DefM) (g : Addr → Option Obj) : AlM := obsM ex ds (He.frG g (as g))
def hookH (as : (Addr → Option Obj) → List Addr) (ex : PySem.W.Frag → List Bool) (ds : List DefM) : PySem.W.Hook where
  α := AlM
  obs := fun z => obsHG as ex ds z.heap.get?
  val := fun _ => dueM ds
  says := fun _ h => ∃ K : PySem.W.Frag, K.In h ∧ SaysM ex ds K
  of := fun _ _ e => ⟨_, He.frG_in, e⟩
  keeps := fun _ _ _ ⟨K, kin, c⟩ k => ⟨K, PySem.W.Frag.In.keeps kin k, c⟩
theorem obsH_eq {as : (Addr → Option Obj) → List Addr} {ex : PySem.W.Frag → List Bool} {ds : List DefM} {g : Addr → Option Obj} {s : Shared} (h : ∀ a, g a = s.heap.get? a) : obsHG as ex ds g = (hookH as ex ds).obs s := by
  obtain rfl : g = s.heap.get? := funext h
  rfl
end DS
namespace DL
open PySem PySem.Spec PyProof.Rows L2 DS
abbrev PW : Program := PySem.Challenge.pw_tracktally_k02_wheels_made
def top (i : Nat) : Stmt := PW.main.body.getD i (.Pass ⟨0, 0, 0, 0⟩)
/-! the head -/
def dd__law_source : DefM := ⟨fun K => He.ga K "_law_source", "_law_source", "_law_source", (top 26), [], []⟩
def dd_Wheel_text : DefM := ⟨fun K => prG K "Wheel" "text", "text", "Wheel.text", (inClass (top 24) 6), [], []⟩
def dd_Wheel___eq__ : DefM := ⟨fun K => He.ma K (He.ga K "Wheel") "__eq__", "__eq__", "Wheel.__eq__", (inClass (top 24) 14), [], []⟩
def dd__law_draw : DefM := ⟨fun K => He.ga K "_law_draw", "_law_draw", "_law_draw", (top 27), [], []⟩
def dd__law_of : DefM := ⟨fun K => He.ga K "_law_of", "_law_of", "_law_of", (top 28), [], []⟩
def dd__law_marks : DefM := ⟨fun K => He.ga K "_law_marks", "_law_marks", "_law_marks", (top 29), [], []⟩
def dd__law_turned : DefM := ⟨fun K => He.ga K "_law_turned", "_law_turned", "_law_turned", (top 33), [], []⟩
def dd__law_drawn_wheel : DefM := ⟨fun K => He.ga K "_law_drawn_wheel", "_law_drawn_wheel", "_law_drawn_wheel", (top 32), [], []⟩
def dd_is_marks : DefM := ⟨fun K => He.ga K "is_marks", "is_marks", "is_marks", (top 16), [], []⟩
def dd_is_track : DefM := ⟨fun K => He.ga K "is_track", "is_track", "is_track", (top 17), [], []⟩
def dd_need_tracks : DefM := ⟨fun K => He.ga K "need_tracks", "need_tracks", "need_tracks", (top 22), [], []⟩
def dd_is_list : DefM := ⟨fun K => He.ga K "is_list", "is_list", "is_list", (top 15), [], []⟩
def dd_is_number : DefM := ⟨fun K => He.ga K "is_number", "is_number", "is_number", (top 14), [], []⟩
def dd_need_shivers : DefM := ⟨fun K => He.ga K "need_shivers", "need_shivers", "need_shivers", (top 23), [], []⟩
def dd_joined : DefM := ⟨fun K => He.ga K "joined", "joined", "joined", (top 18), [], []⟩
def dd_Wheel_sights_at : DefM := ⟨fun K => He.ma K (He.ga K "Wheel") "sights_at", "sights_at", "Wheel.sights_at", (inClass (top 24) 2), [], []⟩
def dd_Wheel___init__ : DefM := ⟨fun K => He.ma K (He.ga K "Wheel") "__init__", "__init__", "Wheel.__init__", (inClass (top 24) 1), [], [("shivers", .non), ("worn", .non)]⟩
def dd__law_wheel : DefM := ⟨fun K => He.ga K "_law_wheel", "_law_wheel", "_law_wheel", (top 31), [], []⟩
def dd__law_same : DefM := ⟨fun K => He.ga K "_law_same", "_law_same", "_law_same", (top 30), [], []⟩
def dd_Wheel_size : DefM := ⟨fun K => prG K "Wheel" "size", "size", "Wheel.size", (inClass (top 24) 3), [], []⟩
def dd_Wheel_many : DefM := ⟨fun K => prG K "Wheel" "many", "many", "Wheel.many", (inClass (top 24) 4), [], []⟩
def dd_Wheel_worn : DefM := ⟨fun K => prG K "Wheel" "worn", "worn", "Wheel.worn", (inClass (top 24) 5), [], []⟩
def dd_Wheel_tracks : DefM := ⟨fun K => He.ma K (He.ga K "Wheel") "tracks", "tracks", "Wheel.tracks", (inClass (top 24) 7), [], []⟩
def dd_Wheel_shivers : DefM := ⟨fun K => He.ma K (He.ga K "Wheel") "shivers", "shivers", "Wheel.shivers", (inClass (top 24) 8), [], []⟩
def dd_Wheel___repr__ : DefM := ⟨fun K => He.ma K (He.ga K "Wheel") "__repr__", "__repr__", "Wheel.__repr__", (inClass (top 24) 15), [], []⟩
def dd__law_wheel_text : DefM := ⟨fun K => He.ga K "_law_wheel_text", "_law_wheel_text", "_law_wheel_text", (top 34), [], []⟩
def dd__law_plainly : DefM := ⟨fun K => He.ga K "_law_plainly", "_law_plainly", "_law_plainly", (top 35), [], []⟩
def dd_law : DefM := ⟨fun K => He.ga K "law", "law", "law", (top 36), [], []⟩
def fns : List DefM := [dd__law_source, dd_Wheel_text, dd_Wheel___eq__, dd__law_draw, dd__law_of, dd__law_marks, dd__law_turned, dd__law_drawn_wheel, dd_is_marks, dd_is_track, dd_need_tracks, dd_is_list, dd_is_number, dd_need_shivers, dd_joined, dd_Wheel_sights_at, dd_Wheel___init__, dd__law_wheel, dd__law_same, dd_Wheel_size, dd_Wheel_many, dd_Wheel_worn, dd_Wheel_tracks, dd_Wheel_shivers, dd_Wheel___repr__, dd__law_wheel_text, dd__law_plainly, dd_law]
def exs (K : PySem.W.Frag) : List Bool := [(He.Fa.glo "_law_source").ok K,
  (He.Fa.cls "Wheel").ok K,
  propB K "Wheel" "text",
  (He.Fa.cls "Wheel").ok K,
  (He.Fa.meth "Wheel" "__eq__").ok K,
  (He.Fa.glo "_law_draw").ok K,
  (He.Fa.glo "_law_of").ok K,
  (He.Fa.glo "_law_marks").ok K,
  (He.Fa.glo "_law_turned").ok K,
  (He.Fa.glo "_law_drawn_wheel").ok K,
  (He.Fa.glo "is_marks").ok K,
  (He.Fa.glo "is_track").ok K,
  (He.Fa.glo "need_tracks").ok K,
  (He.Fa.glo "is_list").ok K,
  (He.Fa.glo "is_number").ok K,
  (He.Fa.glo "need_shivers").ok K,
  (He.Fa.glo "joined").ok K,
  (He.Fa.cls "Wheel").ok K,
  (He.Fa.meth "Wheel" "sights_at").ok K,
  (He.Fa.glo "Wheel").ok K,
  (He.Fa.mkr "Wheel").ok K,
  (He.Fa.glo "_law_wheel").ok K,
  (He.Fa.glo "_law_same").ok K,
  (He.Fa.cls "Wheel").ok K,
  propB K "Wheel" "size",
  (He.Fa.cls "Wheel").ok K,
  propB K "Wheel" "many",
  (He.Fa.cls "Wheel").ok K,
  propB K "Wheel" "worn",
  (He.Fa.cls "Wheel").ok K,
  (He.Fa.meth "Wheel" "tracks").ok K,
  (He.Fa.cls "Wheel").ok K,
  (He.Fa.meth "Wheel" "shivers").ok K,
  (He.Fa.cls "Wheel").ok K,
  (He.Fa.meth "Wheel" "__repr__").ok K,
  (He.Fa.glo "_law_wheel_text").ok K,
  (He.Fa.glo "_law_plainly").ok K,
  (He.Fa.glo "law").ok K,
  (He.Fa.free "all").ok K,
  (He.Fa.free "bool").ok K,
  (He.Fa.free "enumerate").ok K,
  (He.Fa.free "int").ok K,
  (He.Fa.free "isinstance").ok K,
  (He.Fa.free "len").ok K,
  (He.Fa.free "list").ok K,
  (He.Fa.free "range").ok K,
  (He.Fa.free "repr").ok K,
  (He.Fa.free "str").ok K,
  (He.Fa.free "tuple").ok K,
  (He.Fa.free "zip").ok K,
  (He.Fa.str "MARKS" "01").ok K,
  (He.Fa.int "MOST_CELLS" 12).ok K,
  (He.Fa.int "MOST_SHIVER" 2).ok K,
  (He.Fa.int "MOST_TRACKS" 3).ok K,
  (He.Fa.glo "Wheel").ok K,
  insB K "Wheel",
  (He.Fa.noat "Wheel" "by_cell").ok K,
  (He.Fa.noat "Wheel" "own_shivers").ok K,
  (He.Fa.noat "Wheel" "own_tracks").ok K,
  (He.Fa.noat "Wheel" "own_worn").ok K,
  kitTs K CNL [0] "bool",
  kitTs K CNL [0] "int",
  kitTs K CNL [0] "list",
  kitTs K CNL [0] "str",
  kitTs K CNL [0] "tuple",
  kitBs K "Wheel",
  kitCs K CNL [0] "Wheel" [0],
  eqFB K "Wheel",
  nfB K CNL [0] "Wheel",
  cvB K "Wheel" "MOST" 12,
  spFB K "Wheel" "__repr__"]
abbrev R : PySem.W.OpenRow := PySem.W.OpenLaw.row PySem.Challenge.rw_tracktally_k02_wheels_made
def nms : List PySem.Str := ("Wheel" : PySem.Str) :: ("_law_draw" : PySem.Str) :: ("_law_drawn_wheel" : PySem.Str) :: ("_law_marks" : PySem.Str) :: ("_law_of" : PySem.Str) :: ("_law_plainly" : PySem.Str) :: ("_law_same" : PySem.Str) :: ("_law_source" : PySem.Str) :: ("_law_turned" : PySem.Str) :: ("_law_wheel" : PySem.Str) :: ("_law_wheel_text" : PySem.Str) :: ("is_list" : PySem.Str) :: ("is_marks" : PySem.Str) :: ("is_number" : PySem.Str) :: ("is_track" : PySem.Str) :: ("joined" : PySem.Str) :: ("law" : PySem.Str) :: ("need_shivers" : PySem.Str) :: ("need_tracks" : PySem.Str) :: []
noncomputable def hkAs (g : Addr → Option Obj) : List Addr := asF g (as1X g nms) 4
noncomputable abbrev hk : PySem.W.Hook := hookH hkAs exs fns
noncomputable def ob (s : PySem.W.SharedT) : AlM := obsHG hkAs exs fns (HandSHeadRun.getT s)
theorem ob_eq (s : PySem.W.SharedT) : ob s = hk.obs s.abs := obsH_eq (HandSHeadRun.getT_eq s)
theorem run (w : World) : HandSHeadRun.RunEq R (PySem.W.view R.prog [36]) hk ob 16000 (("_wall" : PySem.Str) :: ("TallyError" : PySem.Str) :: ("InvalidSize" : PySem.Str) :: ("InvalidTrack" : PySem.Str) :: ("InvalidShiver" : PySem.Str) :: ("InvalidWorn" : PySem.Str) :: ("SizesDiffer" : PySem.Str) :: ("InvalidCount" : PySem.Str) :: ("TooMany" : PySem.Str) :: ("MARKS" : PySem.Str) :: ("MOST_CELLS" : PySem.Str) :: ("MOST_TRACKS" : PySem.Str) :: ("is_number" : PySem.Str) :: ("is_list" : PySem.Str) :: ("is_marks" : PySem.Str) :: ("is_track" : PySem.Str) :: ("joined" : PySem.Str) :: ("MOST_SHIVER" : PySem.Str) :: ("MOST_ROUNDS" : PySem.Str) :: ("need_tracks" : PySem.Str) :: ("need_shivers" : PySem.Str) :: ("Wheel" : PySem.Str) :: ("_law_source" : PySem.Str) :: ("_law_draw" : PySem.Str) :: ("_law_of" : PySem.Str) :: ("_law_marks" : PySem.Str) :: ("_law_same" : PySem.Str) :: ("_law_wheel" : PySem.Str) :: ("_law_drawn_wheel" : PySem.Str) :: ("_law_turned" : PySem.Str) :: ("_law_wheel_text" : PySem.Str) :: ("_law_plainly" : PySem.Str) :: []) w := by
  intro os
  kernel_rfl
end DL
namespace DS
open PySem PySem.Spec PyProof.Rows L2
inductive D where
  | non | bl (b : Bool) | int (i : Int) | str (x : List Nat)
  | tup (xs : List D) | lst (xs : List D) | dic (t : Bool) (kvs : List (D × D))
  | ins (c : Nat) (fs : List (Nat × D))
  | own (d : D) | pin (d : D)
  deriving Inhabited
/-- the names of classes and fields by number -/
structure Tb where
  cn : List Str
  hs : List Nat
  fn : List Str
  nd : fn.Nodup
/-- a tuple: tracked, or (of one item at most) a written one -/
def TupAt (K : PySem.W.Frag) (F : Hp) (n : Nat) (a : Addr) (vs : List V) : Prop := F a = some (.tup vs) ∨ (SqT K F a vs ∧ n ≤ 1)
theorem TupAt.sq {K : PySem.W.Frag} {F : Hp} {n : Nat} {a : Addr} {vs : List V} (h : TupAt K F n a vs) : SqT K F a vs := h.elim SqT.of And.left
def keyD : Key → D
  | .inl i => .int i
  | .inr x => .str x.cps.toList
section
variable (T : Tb) (K : PySem.W.Frag) (F : Hp)
mutual
/-- v stands for d; all objects of it stand in F (or in the written part) -/
def Rep : D → V → Prop
  | .non, v => v = .non
  | .bl b, v => v = .bl b
  | .int i, v => v = .int i
  | .str x, v => v = .str ⟨x.toArray⟩ ∧ strB x = true
  | .tup xs, v => ∃ a vs, v = .ref a ∧ TupAt K F xs.length a vs ∧ Reps xs vs
  | .lst xs, v => ∃ a vs, v = .ref a ∧ F a = some (.lst vs) ∧ Reps xs vs
  | .dic t kvs, v => ∃ a, v = .ref a ∧ ((t = false ∧ ∃ l, F a = some (.dK l) ∧ RepK kvs l) ∨ t = true ∧ ∃ l, F a = some (.dT l) ∧ RepT kvs l)
  | .ins c fs, v => ∃ a dx n l, v = .ref a ∧ (c ∈ T.hs ∧ T.cn[c]? = some n) ∧ F a = some (.ins (He.ga K n) dx l) ∧ RepF fs l
  | .own _, _ => False
  | .pin _, _ => False
def Reps : List D → List V → Prop
  | [], vs => vs = []
  | d :: ds, vs => ∃ v r, vs = v :: r ∧ Rep d v ∧ Reps ds r
def RepF : List (Nat × D) → List (Str × V) → Prop
  | [], l => l = []
  | (i, d) :: r, l => ∃ n v l', l = (n, v) :: l' ∧ T.fn[i]? = some n ∧ Rep d v ∧ RepF r l'
def RepK : List (D × D) → List (Key × V) → Prop
  | [], l => l = []
  | (k, d) :: r, l => ∃ kk v l', l = (kk, v) :: l' ∧ k = keyD kk ∧ Rep d v ∧ RepK r l'
def RepT : List (D × D) → List (List Key × V) → Prop
  | [], l => l = []
  | (k, d) :: r, l => ∃ kk v l', l = (kk, v) :: l' ∧ k = .tup (kk.map keyD) ∧ Rep d v ∧ RepT r l'
end
end
theorem same_tupAt {K : PySem.W.Frag} {F F' : Hp} {n : Nat} {a : Addr} {xs : List V} (e : Same F F') (h : TupAt K F n a xs) : TupAt K F' n a xs := by
  rcases h with h | ⟨h | h, l⟩
  · exact .inl (e _ _ h)
  · rcases h with h | ⟨o, h⟩
    · exact .inl (e _ _ h)
    · exact .inr ⟨.inl (.inr ⟨o, e _ _ h⟩), l⟩
  · exact .inr ⟨.inr h, l⟩
theorem same_sqT {K : PySem.W.Frag} {F F' : Hp} {a : Addr} {xs : List V} (e : Same F F') (h : SqT K F a xs) : SqT K F' a xs := by
  rcases h with (h | ⟨o, h⟩) | h
  · exact .inl (.inl (e _ _ h))
  · exact .inl (.inr ⟨o, e _ _ h⟩)
  · exact .inr h
section
variable {T : Tb} {K : PySem.W.Frag} {F F' : Hp}
mutual
theorem Rep.mono (e : Same F F') : ∀ (d : D) (v : V), Rep T K F d v → Rep T K F' d v
  | .non, v, h => by simpa only [Rep] using h
  | .bl b, v, h => by simpa only [Rep] using h
  | .int i, v, h => by simpa only [Rep] using h
  | .str x, v, h => by simpa only [Rep] using h
  | .tup xs, v, h => by
    simp only [Rep] at h ⊢
    obtain ⟨a, vs, h1, h2, h3⟩ := h
    exact ⟨a, vs, h1, same_tupAt e h2, Reps.mono e xs vs h3⟩
  | .lst xs, v, h => by
    simp only [Rep] at h ⊢
    obtain ⟨a, vs, h1, h2, h3⟩ := h
    exact ⟨a, vs, h1, e _ _ h2, Reps.mono e xs vs h3⟩
  | .dic t kvs, v, h => by
    simp only [Rep] at h ⊢
    obtain ⟨a, h1, h2⟩ := h
    refine ⟨a, h1, ?_⟩
    rcases h2 with ⟨ht, l, h2, h3⟩ | ⟨ht, l, h2, h3⟩
    · exact .inl ⟨ht, l, e _ _ h2, RepK.mono e kvs l h3⟩
    · exact .inr ⟨ht, l, e _ _ h2, RepT.mono e kvs l h3⟩
  | .ins c fs, v, h => by
    simp only [Rep] at h ⊢
    obtain ⟨a, dx, n, l, h1, h2, h3, h4⟩ := h
    exact ⟨a, dx, n, l, h1, h2, e _ _ h3, RepF.mono e fs l h4⟩
  | .own _, _, h => by simp only [Rep] at h
  | .pin _, _, h => by simp only [Rep] at h
theorem Reps.mono (e : Same F F') : ∀ (ds : List D) (vs : List V), Reps T K F ds vs → Reps T K F' ds vs
  | [], vs, h => by simpa only [Reps] using h
  | d :: ds, vs, h => by
    simp only [Reps] at h ⊢
    obtain ⟨v, r, h1, h2, h3⟩ := h
    exact ⟨v, r, h1, Rep.mono e d v h2, Reps.mono e ds r h3⟩
theorem RepF.mono (e : Same F F') : ∀ (ds : List (Nat × D)) (vs : List (Str × V)), RepF T K F ds vs → RepF T K F' ds vs
  | [], vs, h => by simpa only [RepF] using h
  | (i, d) :: ds, vs, h => by
    simp only [RepF] at h ⊢
    obtain ⟨n, v, l, h1, h2, h3, h4⟩ := h
    exact ⟨n, v, l, h1, h2, Rep.mono e d v h3, RepF.mono e ds l h4⟩
theorem RepK.mono (e : Same F F') : ∀ (ds : List (D × D)) (vs : List (Key × V)), RepK T K F ds vs → RepK T K F' ds vs
  | [], vs, h => by simpa only [RepK] using h
  | (i, d) :: ds, vs, h => by
    simp only [RepK] at h ⊢
    obtain ⟨n, v, l, h1, h2, h3, h4⟩ := h
    exact ⟨n, v, l, h1, h2, Rep.mono e d v h3, RepK.mono e ds l h4⟩
theorem RepT.mono (e : Same F F') : ∀ (ds : List (D × D)) (vs : List (List Key × V)), RepT T K F ds vs → RepT T K F' ds vs
  | [], vs, h => by simpa only [RepT] using h
  | (i, d) :: ds, vs, h => by
    simp only [RepT] at h ⊢
    obtain ⟨n, v, l, h1, h2, h3, h4⟩ := h
    exact ⟨n, v, l, h1, h2, Rep.mono e d v h3, RepT.mono e ds l h4⟩
end
end
/-! ### owned things -/
/-- is it plain data -/
def D.sh : D → Bool
  | .own _ => false
  | .pin _ => false
  | _ => true
section
variable (T : Tb) (K : PySem.W.Frag) (F H : Hp)
mutual
/-- v stands for d: plain data over F; or an owned thing, whose objects fp stand in H alone -/
def RepO : D → V → List Addr → Prop
  | .own (.lst xs), v, fp => ∃ a vs, v = .ref a ∧ fp = [a] ∧ F a = none ∧ H a = some (.lst vs) ∧ Reps T K F xs vs
  | .own (.dic t kvs), v, fp => ∃ a, v = .ref a ∧ fp = [a] ∧ F a = none ∧ ((t = false ∧ ∃ l, H a = some (.dK l) ∧ RepK T K F kvs l) ∨ t = true ∧ ∃ l, H a = some (.dT l) ∧ RepT T K F kvs l)
  | .own (.ins c fs), v, fp => ∃ a dx n l fq, v = .ref a ∧ fp = a :: fq ∧ a ∉ fq ∧ F a = none ∧ (c ∈ T.hs ∧ T.cn[c]? = some n) ∧ H a = some (.ins (He.ga K n) dx l) ∧ FldO fs l fq
  | .own (.tup ds), v, fp => ∃ t vs, v = .ref t ∧ TupAt K F ds.length t vs ∧ TupO ds vs fp
  | .own _, _, _ => False
  | .pin _, _, _ => False
  | d, v, fp => fp = [] ∧ Rep T K F d v
/-- a tuple's items, some of them owned -/
def TupO : List D → List V → List Addr → Prop
  | [], vs, fp => vs = [] ∧ fp = []
  | d :: r, vs, fp => ∃ v l' f1 f2, vs = v :: l' ∧ fp = f1 ++ f2 ∧ (∀ x ∈ f1, x ∉ f2) ∧ RepO d v f1 ∧ TupO r l' f2
def FldO : List (Nat × D) → List (Str × V) → List Addr → Prop
  | [], l, fp => l = [] ∧ fp = []
  | (i, d) :: r, l, fp => ∃ n v l' f1 f2, l = (n, v) :: l' ∧ fp = f1 ++ f2 ∧ (∀ x ∈ f1, x ∉ f2) ∧ T.fn[i]? = some n ∧ RepO d v f1 ∧ FldO r l' f2
end
end
theorem repO_sh {T : Tb} {K : PySem.W.Frag} {F H : Hp} {d : D} {v : V} {fp : List Addr} (s : d.sh = true) : RepO T K F H d v fp ↔ fp = [] ∧ Rep T K F d v := by
  cases d <;> simp [D.sh] at s <;> simp [RepO]
end DS
namespace DS
open PySem PySem.Spec L2
abbrev DEnv := List (Option D)
/-- what an expression comes to -/
inductive R where
  | ok (d : D) | ex (c : Nat) (fs : List (Nat × D))
/-- an argument: plain data, or the owned thing in a slot -/
inductive Ag where
  | sh (d : D) | sl (j : Nat)
inductive RA where
  | ok (as : List Ag) | ex (c : Nat) (fs : List (Nat × D))
inductive RB where
  | ok (b : Bool) | ex (c : Nat) (fs : List (Nat × D))
inductive Out where
  | nx | rt (d : D) | bk | ct | ex (c : Nat) (fs : List (Nat × D))
abbrev EM := DEnv → Option (R × DEnv)
abbrev AM := DEnv → Option (RA × DEnv)
abbrev BM := DEnv → Option (RB × DEnv)
abbrev SM := DEnv → Option (Out × DEnv)
section
variable (T : Tb) (K : PySem.W.Frag)
/-- a slot: plain data, an owned thing, or a parameter's owned thing (its object is the one that was passed) -/
def SlotO (P : Nat → Option V) (F H : Hp) (i : Nat) (d : D) (v : V) (fp : List Addr) : Prop :=
  match d with
  | .pin c => RepO T K F H (.own c) v fp ∧ P i = some v
  | d => RepO T K F H d v fp
structure Abs (P : Nat → Option V) (F : Hp) (g : Nat → List Addr) (env : DEnv) (σ : L2.St) (H : Hp) : Prop where
  sub : Same F H
  len : env.length = σ.length
  at_ : ∀ i d, env[i]? = some (some d) → ∃ v, σ[i]? = some (some v) ∧ SlotO T K P F H i d v (g i)
  dis : ∀ i j x, x ∈ g i → x ∈ g j → i = j
  out : ∀ i, (∀ d, env[i]? ≠ some (some d)) → g i = []
end
/-- not a tuple -/
def ntB : HO → Bool
  | .tup _ => false
  | _ => true
structure Grow (F : Hp) (g : Nat → List Addr) (H F' : Hp) (g' : Nat → List Addr) (H' : Hp) : Prop where
  sub : Same F F'
  keep : ∀ a o, (∀ i, a ∉ g i) → H a = some o → H' a = some o
  fr : ∀ a o, (∀ i, a ∉ g i) → H a = some o → (ntB o = true → F a = none) → (ntB o = true → F' a = none)
  new : ∀ i a, a ∈ g' i → (∃ j, a ∈ g j) ∨ H a = none
theorem Grow.fresh {F F' H H' : Hp} {g g' : Nat → List Addr} (G : Grow F g H F' g' H') (a : Addr) (o : HO) (na : ∀ i, a ∉ g i) (ho : H a = some o) (hf : F a = none) (hn : ntB o = true := by rfl) : F' a = none := G.fr a o na ho (fun _ => hf) hn
theorem Grow.refl (F : Hp) (g : Nat → List Addr) (H : Hp) : Grow F g H F g H := ⟨Same.refl _, fun _ _ _ h => h, fun _ _ _ _ h => h, fun i _ h => .inl ⟨i, h⟩⟩
theorem Grow.trans {F F1 F2 H H1 H2 : Hp} {g g1 g2 : Nat → List Addr} (a : Grow F g H F1 g1 H1) (b : Grow F1 g1 H1 F2 g2 H2) : Grow F g H F2 g2 H2 := by
  have nin : ∀ x o, (∀ i, x ∉ g i) → H x = some o → ∀ i, x ∉ g1 i := fun x o hx ho i hi => by
    rcases a.new i x hi with ⟨j, q⟩ | q
    · exact hx j q
    · rw [ho] at q; cases q
  refine ⟨a.sub.trans b.sub, fun x o hx ho => b.keep x o (nin x o hx ho) (a.keep x o hx ho), fun x o hx ho hf => b.fr x o (nin x o hx ho) (a.keep x o hx ho) (a.fr x o hx ho hf), fun i x hi => ?_⟩
  rcases b.new i x hi with ⟨j, q⟩ | q
  · exact a.new j x q
  · by_cases e : ∃ j, x ∈ g j
    · exact .inl e
    · refine .inr ?_
      cases ho : H x with
      | none => rfl
      | some o =>
        have := a.keep x o (fun i hi => e ⟨i, hi⟩) ho
        rw [q] at this; cases this
section
variable {T : Tb} {K : PySem.W.Frag} {F F' H H' : Hp}
theorem Reps.length : ∀ {ds : List D} {vs : List V}, Reps T K F ds vs → ds.length = vs.length
  | [], vs, h => by simp only [Reps] at h; subst h; rfl
  | d :: ds, vs, h => by
    simp only [Reps] at h
    obtain ⟨v, r, rfl, _, h3⟩ := h
    simp [Reps.length h3]
theorem Reps.get : ∀ {ds : List D} {vs : List V} {i : Nat} {d : D}, Reps T K F ds vs → ds[i]? = some d → ∃ v, vs[i]? = some v ∧ Rep T K F d v
  | [], vs, i, d, _, e => by simp at e
  | d :: ds, vs, 0, d', h, e => by
    simp only [Reps] at h
    obtain ⟨v, r, rfl, h2, _⟩ := h
    simp at e; subst e
    exact ⟨v, rfl, h2⟩
  | d :: ds, vs, i + 1, d', h, e => by
    simp only [Reps] at h
    obtain ⟨v, r, rfl, _, h3⟩ := h
    obtain ⟨v', h4, h5⟩ := Reps.get (i := i) h3 (by simpa using e)
    exact ⟨v', by simpa using h4, h5⟩
theorem Reps.getV : ∀ {ds : List D} {vs : List V} {i : Nat} {v : V}, Reps T K F ds vs → vs[i]? = some v → ∃ d, ds[i]? = some d ∧ Rep T K F d v
  | [], vs, i, v, h, e => by simp only [Reps] at h; subst h; simp at e
  | d :: ds, vs, 0, v', h, e => by
    simp only [Reps] at h
    obtain ⟨v, r, rfl, h2, _⟩ := h
    simp at e; subst e
    exact ⟨d, rfl, h2⟩
  | d :: ds, vs, i + 1, v', h, e => by
    simp only [Reps] at h
    obtain ⟨v, r, rfl, _, h3⟩ := h
    obtain ⟨v', h4, h5⟩ := Reps.getV (i := i) h3 (by simpa using e)
    exact ⟨v', by simpa using h4, h5⟩
theorem Reps.append : ∀ {ds es : List D} {vs us : List V}, Reps T K F ds vs → Reps T K F es us → Reps T K F (ds ++ es) (vs ++ us)
  | [], es, vs, us, h, h' => by simp only [Reps] at h; subst h; exact h'
  | d :: ds, es, vs, us, h, h' => by
    simp only [Reps] at h
    obtain ⟨v, r, rfl, h2, h3⟩ := h
    show Reps T K F (d :: (ds ++ es)) (v :: (r ++ us))
    simp only [Reps]
    exact ⟨v, _, rfl, h2, Reps.append h3 h'⟩
theorem Reps.cons {d : D} {v : V} {ds : List D} {vs : List V} (h : Rep T K F d v) (h' : Reps T K F ds vs) : Reps T K F (d :: ds) (v :: vs) := by
  simp only [Reps]; exact ⟨v, vs, rfl, h, h'⟩
theorem Reps.nil : Reps T K F [] [] := by simp only [Reps]
theorem Reps.uncons {d : D} {ds : List D} {vs : List V} (h : Reps T K F (d :: ds) vs) : ∃ v r, vs = v :: r ∧ Rep T K F d v ∧ Reps T K F ds r := by
  simpa only [Reps] using h
theorem Rep.sh {d : D} {v : V} (h : Rep T K F d v) : d.sh = true := by
  cases d <;> first | rfl | (simp only [Rep] at h)
theorem Reps.take (n : Nat) : ∀ {ds : List D} {vs : List V}, Reps T K F ds vs → Reps T K F (ds.take n) (vs.take n) := by
  induction n with
  | zero => intro ds vs _; simp only [List.take_zero]; exact Reps.nil
  | succ n ih =>
    intro ds vs h
    cases ds with
    | nil => simp only [Reps] at h; subst h; exact Reps.nil
    | cons d ds =>
      obtain ⟨v, r, rfl, h2, h3⟩ := h.uncons
      exact Reps.cons h2 (ih h3)
theorem Reps.drop (n : Nat) : ∀ {ds : List D} {vs : List V}, Reps T K F ds vs → Reps T K F (ds.drop n) (vs.drop n) := by
  induction n with
  | zero => intro ds vs h; exact h
  | succ n ih =>
    intro ds vs h
    cases ds with
    | nil => simp only [Reps] at h; subst h; exact Reps.nil
    | cons d ds =>
      obtain ⟨v, r, rfl, h2, h3⟩ := h.uncons
      exact ih h3
/-- owned things stay if their objects stay and none of them is laid into F -/
theorem repO_keep_sh {d : D} (s : d.sh = true) (hF : Same F F') {v : V} {fp : List Addr} (h : RepO T K F H d v fp) : RepO T K F' H' d v fp := by
  rw [repO_sh s] at h ⊢
  exact ⟨h.1, h.2.mono hF _ _⟩
mutual
theorem repO_keep (hF : Same F F') : ∀ (d : D) (v : V) (fp : List Addr), RepO T K F H d v fp → (∀ a ∈ fp, ∀ o, H a = some o → H' a = some o) → (∀ a ∈ fp, F' a = none) → RepO T K F' H' d v fp
  | .own (.lst xs), v, fp, h, hk, hn => by
    simp only [RepO] at h ⊢
    obtain ⟨a, vs, h1, h2, h3, h4, h5⟩ := h
    subst h2
    exact ⟨a, vs, h1, rfl, hn a (by simp), hk a (by simp) _ h4, Reps.mono hF _ _ h5⟩
  | .own (.dic t kvs), v, fp, h, hk, hn => by
    simp only [RepO] at h ⊢
    obtain ⟨a, h1, h2, h3, h4⟩ := h
    subst h2
    refine ⟨a, h1, rfl, hn a (by simp), ?_⟩
    rcases h4 with ⟨ht, l, h4, h5⟩ | ⟨ht, l, h4, h5⟩
    · exact .inl ⟨ht, l, hk a (by simp) _ h4, RepK.mono hF _ _ h5⟩
    · exact .inr ⟨ht, l, hk a (by simp) _ h4, RepT.mono hF _ _ h5⟩
  | .own (.ins c fs), v, fp, h, hk, hn => by
    simp only [RepO] at h ⊢
    obtain ⟨a, dx, n, l, fq, h1, h2, h3, h4, h5, h6, h7⟩ := h
    subst h2
    exact ⟨a, dx, n, l, fq, h1, rfl, h3, hn a (by simp), h5, hk a (by simp) _ h6, fldO_keep hF fs l fq h7 (fun b hb => hk b (by simp [hb])) fun b hb => hn b (by simp [hb])⟩
  | .own .non, v, fp, h, hk, hn => by simp only [RepO] at h
  | .own (.bl _), v, fp, h, hk, hn => by simp only [RepO] at h
  | .own (.int _), v, fp, h, hk, hn => by simp only [RepO] at h
  | .own (.str _), v, fp, h, hk, hn => by simp only [RepO] at h
  | .own (.tup ds), v, fp, h, hk, hn => by
    simp only [RepO] at h ⊢
    obtain ⟨t, vs, h1, h2, h3⟩ := h
    exact ⟨t, vs, h1, same_tupAt hF h2, tupO_keep hF ds vs fp h3 hk hn⟩
  | .own (.own _), v, fp, h, hk, hn => by simp only [RepO] at h
  | .own (.pin _), v, fp, h, hk, hn => by simp only [RepO] at h
  | .pin _, v, fp, h, hk, hn => by simp only [RepO] at h
  | .non, v, fp, h, hk, hn => repO_keep_sh rfl hF h
  | .bl _, v, fp, h, hk, hn => repO_keep_sh rfl hF h
  | .int _, v, fp, h, hk, hn => repO_keep_sh rfl hF h
  | .str _, v, fp, h, hk, hn => repO_keep_sh rfl hF h
  | .tup _, v, fp, h, hk, hn => repO_keep_sh rfl hF h
  | .lst _, v, fp, h, hk, hn => repO_keep_sh rfl hF h
  | .dic _ _, v, fp, h, hk, hn => repO_keep_sh rfl hF h
  | .ins _ _, v, fp, h, hk, hn => repO_keep_sh rfl hF h
theorem tupO_keep (hF : Same F F') : ∀ (ds : List D) (vs : List V) (fp : List Addr), TupO T K F H ds vs fp → (∀ a ∈ fp, ∀ o, H a = some o → H' a = some o) → (∀ a ∈ fp, F' a = none) → TupO T K F' H' ds vs fp
  | [], vs, fp, h, hk, hn => by simpa only [TupO] using h
  | d :: r, vs, fp, h, hk, hn => by
    simp only [TupO] at h ⊢
    obtain ⟨v, l', f1, f2, h1, h2, h3, h5, h6⟩ := h
    subst h2
    exact ⟨v, l', f1, f2, h1, rfl, h3, repO_keep hF d v f1 h5 (fun b hb => hk b (by simp [hb])) (fun b hb => hn b (by simp [hb])),
      tupO_keep hF r l' f2 h6 (fun b hb => hk b (by simp [hb])) fun b hb => hn b (by simp [hb])⟩
theorem fldO_keep (hF : Same F F') : ∀ (fs : List (Nat × D)) (l : List (Str × V)) (fp : List Addr), FldO T K F H fs l fp → (∀ a ∈ fp, ∀ o, H a = some o → H' a = some o) → (∀ a ∈ fp, F' a = none) → FldO T K F' H' fs l fp
  | [], l, fp, h, hk, hn => by simpa only [FldO] using h
  | (i, d) :: r, l, fp, h, hk, hn => by
    simp only [FldO] at h ⊢
    obtain ⟨n, v, l', f1, f2, h1, h2, h3, h4, h5, h6⟩ := h
    subst h2
    exact ⟨n, v, l', f1, f2, h1, rfl, h3, h4, repO_keep hF d v f1 h5 (fun b hb => hk b (by simp [hb])) (fun b hb => hn b (by simp [hb])),
      fldO_keep hF r l' f2 h6 (fun b hb => hk b (by simp [hb])) fun b hb => hn b (by simp [hb])⟩
end
mutual
theorem repO_inT : ∀ (d : D) (v : V) (fp : List Addr), RepO T K F H d v fp → ∀ a ∈ fp, F a = none ∧ ∃ o, H a = some o ∧ ntB o = true
  | .own (.lst xs), v, fp, h, a, ha => by
    simp only [RepO] at h
    obtain ⟨b, vs, h1, h2, h3, h4, h5⟩ := h
    subst h2
    obtain rfl : a = b := by simpa using ha
    exact ⟨h3, _, h4, rfl⟩
  | .own (.dic t kvs), v, fp, h, a, ha => by
    simp only [RepO] at h
    obtain ⟨b, h1, h2, h3, h4⟩ := h
    subst h2
    obtain rfl : a = b := by simpa using ha
    rcases h4 with ⟨ht, l, h4, h5⟩ | ⟨ht, l, h4, h5⟩
    · exact ⟨h3, _, h4, rfl⟩
    · exact ⟨h3, _, h4, rfl⟩
  | .own (.ins c fs), v, fp, h, a, ha => by
    simp only [RepO] at h
    obtain ⟨b, dx, n, l, fq, h1, h2, h3, h4, h5, h6, h7⟩ := h
    subst h2
    rcases List.mem_cons.mp ha with rfl | ha
    · exact ⟨h4, _, h6, rfl⟩
    · exact fldO_inT fs l fq h7 a ha
  | .own .non, v, fp, h, a, ha => by simp only [RepO] at h
  | .own (.bl _), v, fp, h, a, ha => by simp only [RepO] at h
  | .own (.int _), v, fp, h, a, ha => by simp only [RepO] at h
  | .own (.str _), v, fp, h, a, ha => by simp only [RepO] at h
  | .own (.tup ds), v, fp, h, a, ha => by
    simp only [RepO] at h
    obtain ⟨t, vs, h1, h2, h3⟩ := h
    exact tupO_inT ds vs fp h3 a ha
  | .own (.own _), v, fp, h, a, ha => by simp only [RepO] at h
  | .own (.pin _), v, fp, h, a, ha => by simp only [RepO] at h
  | .pin _, v, fp, h, a, ha => by simp only [RepO] at h
  | .non, v, fp, h, a, ha => by rw [repO_sh rfl] at h; rw [h.1] at ha; cases ha
  | .bl _, v, fp, h, a, ha => by rw [repO_sh rfl] at h; rw [h.1] at ha; cases ha
  | .int _, v, fp, h, a, ha => by rw [repO_sh rfl] at h; rw [h.1] at ha; cases ha
  | .str _, v, fp, h, a, ha => by rw [repO_sh rfl] at h; rw [h.1] at ha; cases ha
  | .tup _, v, fp, h, a, ha => by rw [repO_sh rfl] at h; rw [h.1] at ha; cases ha
  | .lst _, v, fp, h, a, ha => by rw [repO_sh rfl] at h; rw [h.1] at ha; cases ha
  | .dic _ _, v, fp, h, a, ha => by rw [repO_sh rfl] at h; rw [h.1] at ha; cases ha
  | .ins _ _, v, fp, h, a, ha => by rw [repO_sh rfl] at h; rw [h.1] at ha; cases ha
theorem tupO_inT : ∀ (ds : List D) (vs : List V) (fp : List Addr), TupO T K F H ds vs fp → ∀ a ∈ fp, F a = none ∧ ∃ o, H a = some o ∧ ntB o = true
  | [], vs, fp, h, a, ha => by simp only [TupO] at h; rw [h.2] at ha; cases ha
  | d :: r, vs, fp, h, a, ha => by
    simp only [TupO] at h
    obtain ⟨v, l', f1, f2, h1, h2, h3, h5, h6⟩ := h
    subst h2
    rcases List.mem_append.mp ha with ha | ha
    · exact repO_inT d v f1 h5 a ha
    · exact tupO_inT r l' f2 h6 a ha
theorem fldO_inT : ∀ (fs : List (Nat × D)) (l : List (Str × V)) (fp : List Addr), FldO T K F H fs l fp → ∀ a ∈ fp, F a = none ∧ ∃ o, H a = some o ∧ ntB o = true
  | [], l, fp, h, a, ha => by simp only [FldO] at h; rw [h.2] at ha; cases ha
  | (i, d) :: r, l, fp, h, a, ha => by
    simp only [FldO] at h
    obtain ⟨n, v, l', f1, f2, h1, h2, h3, h4, h5, h6⟩ := h
    subst h2
    rcases List.mem_append.mp ha with ha | ha
    · exact repO_inT d v f1 h5 a ha
    · exact fldO_inT r l' f2 h6 a ha
end
theorem repO_in (d : D) (v : V) (fp : List Addr) (h : RepO T K F H d v fp) : ∀ a ∈ fp, F a = none ∧ ∃ o, H a = some o := fun a ha => let ⟨h1, o, h2, _⟩ := repO_inT d v fp h a ha; ⟨h1, o, h2⟩
theorem repO_nt {d : D} {v : V} {fp : List Addr} (h : RepO T K F H d v fp) {a : Addr} (ha : a ∈ fp) {o : HO} (ho : H a = some o) : ntB o = true := by
  obtain ⟨_, u, h2, h3⟩ := repO_inT d v fp h a ha
  rw [h2] at ho; cases ho; exact h3
end
/-! ### slots -/
section
variable {T : Tb} {K : PySem.W.Frag} {P : Nat → Option V} {F F' H H' : Hp} {g : Nat → List Addr} {env : DEnv} {σ : L2.St}
theorem slotO_keep {i : Nat} {d : D} {v : V} {fp : List Addr} (hF : Same F F') (h : SlotO T K P F H i d v fp) (hk : ∀ a ∈ fp, ∀ o, H a = some o → H' a = some o) (hn : ∀ a ∈ fp, F' a = none) : SlotO T K P F' H' i d v fp := by
  cases d with
  | pin c => exact ⟨repO_keep hF _ _ _ h.1 hk hn, h.2⟩
  | _ => exact repO_keep hF _ _ _ h hk hn
theorem slotO_in {i : Nat} {d : D} {v : V} {fp : List Addr} (h : SlotO T K P F H i d v fp) : ∀ a ∈ fp, F a = none ∧ ∃ o, H a = some o := by
  cases d with
  | pin c => exact repO_in _ _ _ h.1
  | _ => exact repO_in _ _ _ h
theorem slotO_sh {i : Nat} {d : D} {v : V} {fp : List Addr} (s : d.sh = true) : SlotO T K P F H i d v fp ↔ fp = [] ∧ Rep T K F d v := by
  cases d <;> first | exact repO_sh s | cases s
theorem slotO_pin {i : Nat} {d : D} {v : V} {fp : List Addr} : SlotO T K P F H i (.pin d) v fp ↔ RepO T K F H (.own d) v fp ∧ P i = some v := Iff.rfl
theorem slotO_own {i : Nat} {d : D} {v : V} {fp : List Addr} : SlotO T K P F H i (.own d) v fp ↔ RepO T K F H (.own d) v fp := Iff.rfl
theorem Abs.inn (A : Abs T K P F g env σ H) : ∀ i a, a ∈ g i → F a = none ∧ ∃ o, H a = some o := fun i a ha => by
  cases e : env[i]? with
  | none => rw [A.out i (by intro d; rw [e]; simp)] at ha; cases ha
  | some o =>
    cases o with
    | none => rw [A.out i (by intro d; rw [e]; simp)] at ha; cases ha
    | some d =>
      obtain ⟨v, _, h⟩ := A.at_ i d e
      exact slotO_in h a ha
theorem slotO_nt {i : Nat} {d : D} {v : V} {fp : List Addr} (h : SlotO T K P F H i d v fp) {a : Addr} (ha : a ∈ fp) {o : HO} (ho : H a = some o) : ntB o = true := by
  cases d with
  | pin c => exact repO_nt h.1 ha ho
  | _ => exact repO_nt h ha ho
theorem Abs.innT (A : Abs T K P F g env σ H) {i : Nat} {a : Addr} (ha : a ∈ g i) {o : HO} (ho : H a = some o) : ntB o = true := by
  cases e : env[i]? with
  | none => rw [A.out i (by intro d; rw [e]; simp)] at ha; cases ha
  | some q =>
    cases q with
    | none => rw [A.out i (by intro d; rw [e]; simp)] at ha; cases ha
    | some d =>
      obtain ⟨v, _, h⟩ := A.at_ i d e
      exact slotO_nt h ha ho
/-- a new thing is laid, as plain data -/
theorem Abs.laid (A : Abs T K P F g env σ H) {p : Addr} {o : HO} (hp : H p = none) : Abs T K P (upd F p o) g env σ (upd H p o) := by
  have fp : F p = none := A.sub.free hp
  have sF : Same F (upd F p o) := fun b u e => by rw [upd_ne (ne_of_none e fp)]; exact e
  have gp : ∀ i a, a ∈ g i → a ≠ p := fun i a ha => by
    obtain ⟨_, u, e⟩ := A.inn i a ha
    exact ne_of_none e hp
  refine ⟨fun b u e => ?_, A.len, fun i d e => ?_, A.dis, A.out⟩
  · by_cases h : b = p
    · subst h; rw [upd_same] at e ⊢; exact e
    · rw [upd_ne h] at e ⊢; exact A.sub _ _ e
  · obtain ⟨v, h1, h2⟩ := A.at_ i d e
    exact ⟨v, h1, slotO_keep sF h2 (fun a ha u q => by rw [upd_ne (gp i a ha)]; exact q) fun a ha => by rw [upd_ne (gp i a ha)]; exact (A.inn i a ha).1⟩
theorem grow_laid {p : Addr} {o : HO} (s : Same F H) (hp : H p = none) : Grow F g H (upd F p o) g (upd H p o) := by
  have fp : F p = none := s.free hp
  refine ⟨fun b u e => by rw [upd_ne (ne_of_none e fp)]; exact e, fun a u _ e => by rw [upd_ne (ne_of_none e hp)]; exact e, fun a u _ e q => by rw [upd_ne (ne_of_none e hp)]; exact q, fun i a h => .inl ⟨i, h⟩⟩
/-- something untracked by the slots and by F is laid into H alone -/
theorem Abs.beside (A : Abs T K P F g env σ H) {p : Addr} {o : HO} (hp : H p = none) : Abs T K P F g env σ (upd H p o) := by
  have gp : ∀ i a, a ∈ g i → a ≠ p := fun i a ha => by
    obtain ⟨_, u, e⟩ := A.inn i a ha
    exact ne_of_none e hp
  refine ⟨fun b u e => ?_, A.len, fun i d e => ?_, A.dis, A.out⟩
  · rw [upd_ne (ne_of_none (A.sub _ _ e) hp)]; exact A.sub _ _ e
  · obtain ⟨v, h1, h2⟩ := A.at_ i d e
    exact ⟨v, h1, slotO_keep (Same.refl _) h2 (fun a ha u q => by rw [upd_ne (gp i a ha)]; exact q) fun a ha => (A.inn i a ha).1⟩
/-- a plain slot is set -/
theorem Abs.set (A : Abs T K P F g env σ H) {i : Nat} {d : D} {v : V} (hi : i < env.length) (hg : g i = []) (r : Rep T K F d v) : Abs T K P F g (env.set i (some d)) (σ.set i (some v)) H := by
  refine ⟨A.sub, by simpa using A.len, fun j c e => ?_, A.dis, fun j h => ?_⟩
  · by_cases q : i = j
    · subst q
      rw [List.getElem?_set_self hi] at e
      cases e
      refine ⟨v, by rw [List.getElem?_set_self (by rw [← A.len]; exact hi)], ?_⟩
      rw [slotO_sh r.sh]; exact ⟨hg, r⟩
    · rw [List.getElem?_set_ne q] at e
      rw [List.getElem?_set_ne q]
      exact A.at_ j c e
  · by_cases q : i = j
    · subst q; exact hg
    · refine A.out j fun c e => h c ?_
      rw [List.getElem?_set_ne q]; exact e
/-- a slot forgotten -/
theorem Abs.drop (A : Abs T K P F g env σ H) (i : Nat) {w : Option V} : Abs T K P F (fun j => if j = i then [] else g j) (env.set i none) (σ.set i w) H := by
  refine ⟨A.sub, by simpa using A.len, fun j c e => ?_, fun j k x h1 h2 => ?_, fun j h => ?_⟩
  · by_cases q : i = j
    · subst q
      by_cases hi : i < env.length
      · rw [List.getElem?_set_self hi] at e; cases e
      · rw [List.getElem?_eq_none (by simpa using hi)] at e; cases e
    · rw [List.getElem?_set_ne q] at e
      rw [List.getElem?_set_ne q]
      simp only [if_neg (Ne.symm q)]
      exact A.at_ j c e
  · have h1 : x ∈ (if j = i then [] else g j) := h1
    have h2 : x ∈ (if k = i then [] else g k) := h2
    split at h1
    · cases h1
    · split at h2
      · cases h2
      · exact A.dis j k x h1 h2
  · by_cases q : i = j
    · subst q; simp
    · simp only [if_neg (Ne.symm q)]
      refine A.out j fun c e => h c ?_
      rw [List.getElem?_set_ne q]; exact e
end
/-! ### the judgements -/
section
variable (T : Tb) (K : PySem.W.Frag) (P : Nat → Option V) (W : WX)
/-- how a raised error lies -/
def RepX (F H : Hp) (c : Nat) (fs : List (Nat × D)) (cls : Value) (dd : Option Addr) : Prop :=
  ∃ n a l, T.cn[c]? = some n ∧ cls = .ref (He.ga K n) ∧ dd = some a ∧ H a = some (.xd l) ∧ RepF T K F fs l
def ExE (env' : DEnv) (F : Hp) (g : Nat → List Addr) (σ : L2.St) (H : Hp) (c : Nat) (fs : List (Nat × D)) : Prop :=
  ∀ cls dd F' g' H', Grow F g H F' g' H' → Abs T K P F' g' env' σ H' → RepX T K F' H' c fs cls dd → W cls dd σ H'
def PostE (env' : DEnv) (F : Hp) (g : Nat → List Addr) (σ : L2.St) (H : Hp) (Q : VK) : R → Prop
  | .ok d => ∀ v F' g' H', Grow F g H F' g' H' → Abs T K P F' g' env' σ H' → Rep T K F' d v → Q v H'
  | .ex c fs => ExE T K P W env' F g σ H c fs
def SoundE (f : EM) (t : TE) : Prop := ∀ env r env', f env = some (r, env') → ∀ F g σ H Q, Abs T K P F g env σ H → PostE T K P W env' F g σ H Q r → t σ H Q
def PostB (env' : DEnv) (F : Hp) (g : Nat → List Addr) (σ : L2.St) (H : Hp) (Q : Bool → Hp → Prop) : RB → Prop
  | .ok b => ∀ F' g' H', Grow F g H F' g' H' → Abs T K P F' g' env' σ H' → Q b H'
  | .ex c fs => ExE T K P W env' F g σ H c fs
def SoundB (f : BM) (t : TT) : Prop := ∀ env r env', f env = some (r, env') → ∀ F g σ H Q, Abs T K P F g env σ H → PostB T K P W env' F g σ H Q r → t σ H Q
/-- what an argument list comes to -/
def AgR (F : Hp) (σ : L2.St) : Ag → V → Prop
  | .sh d, v => Rep T K F d v
  | .sl j, v => σ[j]? = some (some v)
def AgRs (F : Hp) (σ : L2.St) : List Ag → List V → Prop
  | [], vs => vs = []
  | a :: as, vs => ∃ v r, vs = v :: r ∧ AgR T K F σ a v ∧ AgRs F σ as r
def PostA (env' : DEnv) (F : Hp) (g : Nat → List Addr) (σ : L2.St) (H : Hp) (Q : List V → Hp → Prop) : RA → Prop
  | .ok as => ∀ vs F' g' H', Grow F g H F' g' H' → Abs T K P F' g' env' σ H' → AgRs T K F' σ as vs → Q vs H'
  | .ex c fs => ExE T K P W env' F g σ H c fs
def SoundA (f : AM) (t : TA) : Prop := ∀ env r env', f env = some (r, env') → ∀ F g σ H Q, Abs T K P F g env σ H → PostA T K P W env' F g σ H Q r → t σ H Q
/-- an expression that gives an owned thing -/
def PostO (env' : DEnv) (F : Hp) (g : Nat → List Addr) (σ : L2.St) (H : Hp) (Q : VK) : R → Prop
  | .ok d => ∀ v fp F' g' H', Grow F g H F' g' H' → Abs T K P F' g' env' σ H' → RepO T K F' H' (.own d) v fp → (∀ i, ∀ x ∈ fp, x ∉ g' i) → (∀ x ∈ fp, (∃ j, x ∈ g j) ∨ H x = none) → Q v H'
  | .ex c fs => ExE T K P W env' F g σ H c fs
def SoundO (f : EM) (t : TE) : Prop := ∀ env r env', f env = some (r, env') → ∀ F g σ H Q, Abs T K P F g env σ H → PostO T K P W env' F g σ H Q r → t σ H Q
def PostS (env' : DEnv) (F : Hp) (g : Nat → List Addr) (H : Hp) (Z : Ends) : Out → Prop
  | .nx => ∀ F' g' σ' H', Grow F g H F' g' H' → Abs T K P F' g' env' σ' H' → Z.nx σ' H'
  | .bk => ∀ F' g' σ' H', Grow F g H F' g' H' → Abs T K P F' g' env' σ' H' → Z.bk σ' H'
  | .ct => ∀ F' g' σ' H', Grow F g H F' g' H' → Abs T K P F' g' env' σ' H' → Z.ct σ' H'
  | .rt d => ∀ v fp F' g' σ' H', Grow F g H F' g' H' → Abs T K P F' g' env' σ' H' → RepO T K F' H' d v fp → (∀ i, ∀ x ∈ fp, x ∉ g' i) → (∀ x ∈ fp, (∃ j, x ∈ g j) ∨ H x = none) → Z.rt v H'
  | .ex c fs => ∀ σ', ExE T K P W env' F g σ' H c fs
def SoundS (f : SM) (t : TS) : Prop := ∀ env o env', f env = some (o, env') → ∀ F g σ H Z, Abs T K P F g env σ H → PostS T K P W env' F g H Z o → t Z σ H
end
/-- e is carried by f: it has a reading that f answers -/
structure DE (T : Tb) (X : Cx) (P : Nat → Option V) (W : WX) (e : Expr) (f : EM) : Prop where
  ex : ∃ t, PE X e t ∧ SoundE T X.K P W f t
structure DO (T : Tb) (X : Cx) (P : Nat → Option V) (W : WX) (e : Expr) (f : EM) : Prop where
  ex : ∃ t, PE X e t ∧ SoundO T X.K P W f t
structure DT (T : Tb) (X : Cx) (P : Nat → Option V) (W : WX) (e : Expr) (f : BM) : Prop where
  ex : ∃ t, PT X e t ∧ SoundB T X.K P W f t
structure DW (T : Tb) (X : Cx) (P : Nat → Option V) (W : WX) (e : Expr) (f : BM) : Prop where
  ex : ∃ t, PW X e t ∧ SoundB T X.K P W f t
structure DA (T : Tb) (X : Cx) (P : Nat → Option V) (W : WX) (es : List Expr) (f : AM) : Prop where
  ex : ∃ t, PA X es t ∧ SoundA T X.K P W f t
structure DS1 (T : Tb) (X : Cx) (P : Nat → Option V) (W : WX) (s : Stmt) (f : SM) : Prop where
  ex : ∃ t, PS X s t ∧ SoundS T X.K P W f t
structure DSs (T : Tb) (X : Cx) (P : Nat → Option V) (W : WX) (s : List Stmt) (f : SM) : Prop where
  ex : ∃ t, PSs X s t ∧ SoundS T X.K P W f t
end DS
namespace DS
open PySem PySem.Spec L2
/-! ### how the functions are put together -/
def lift (o : Option D) : EM := fun env => match o with
  | some d => some (.ok d, env)
  | none => none
def bE (fa : EM) (k : D → EM) : EM := fun env => match fa env with
  | some (.ok x, e) => k x e
  | some (.ex c fs, e) => some (.ex c fs, e)
  | none => none
def bB (fa : EM) (k : D → BM) : BM := fun env => match fa env with
  | some (.ok x, e) => k x e
  | some (.ex c fs, e) => some (.ex c fs, e)
  | none => none
def bA (fa : AM) (k : List Ag → EM) : EM := fun env => match fa env with
  | some (.ok x, e) => k x e
  | some (.ex c fs, e) => some (.ex c fs, e)
  | none => none
def cB (fa : BM) (k : Bool → EM) : EM := fun env => match fa env with
  | some (.ok x, e) => k x e
  | some (.ex c fs, e) => some (.ex c fs, e)
  | none => none
def cBB (fa : BM) (k : Bool → BM) : BM := fun env => match fa env with
  | some (.ok x, e) => k x e
  | some (.ex c fs, e) => some (.ex c fs, e)
  | none => none
def retB (b : Bool) : BM := fun env => some (.ok b, env)
def noB : BM := fun _ => none
section
variable {T : Tb} {K : PySem.W.Frag} {P : Nat → Option V} {W : WX} {F F' F1 H H' H1 : Hp} {g g1 : Nat → List Addr} {env env' : DEnv} {σ : L2.St}
theorem Grow.back (G : Grow F g H F1 g1 H1) {x : Addr} (h : (∃ j, x ∈ g1 j) ∨ H1 x = none) : (∃ j, x ∈ g j) ∨ H x = none := by
  rcases h with ⟨j, q⟩ | q
  · exact G.new j x q
  · by_cases e : ∃ j, x ∈ g j
    · exact .inl e
    · refine .inr ?_
      cases ho : H x with
      | none => rfl
      | some o =>
        have := G.keep x o (fun i hi => e ⟨i, hi⟩) ho
        rw [q] at this; cases this
theorem ExE.grow {c : Nat} {fs : List (Nat × D)} (h : ExE T K P W env' F g σ H c fs) (G : Grow F g H F1 g1 H1) : ExE T K P W env' F1 g1 σ H1 c fs :=
  fun cls dd F' g' H' G' => h cls dd F' g' H' (G.trans G')
theorem PostE.grow {Q : VK} {r : R} (h : PostE T K P W env' F g σ H Q r) (G : Grow F g H F1 g1 H1) : PostE T K P W env' F1 g1 σ H1 Q r := by
  cases r with
  | ok d => exact fun v F' g' H' G' => h v F' g' H' (G.trans G')
  | ex c fs => exact ExE.grow h G
theorem PostB.grow {Q : Bool → Hp → Prop} {r : RB} (h : PostB T K P W env' F g σ H Q r) (G : Grow F g H F1 g1 H1) : PostB T K P W env' F1 g1 σ H1 Q r := by
  cases r with
  | ok d => exact fun F' g' H' G' => h F' g' H' (G.trans G')
  | ex c fs => exact ExE.grow h G
theorem PostA.grow {Q : List V → Hp → Prop} {r : RA} (h : PostA T K P W env' F g σ H Q r) (G : Grow F g H F1 g1 H1) : PostA T K P W env' F1 g1 σ H1 Q r := by
  cases r with
  | ok d => exact fun v F' g' H' G' => h v F' g' H' (G.trans G')
  | ex c fs => exact ExE.grow h G
theorem PostS.grow {Z : Ends} {r : Out} (h : PostS T K P W env' F g H Z r) (G : Grow F g H F1 g1 H1) : PostS T K P W env' F1 g1 H1 Z r := by
  cases r with
  | nx => exact fun F' g' σ' H' G' => h F' g' σ' H' (G.trans G')
  | bk => exact fun F' g' σ' H' G' => h F' g' σ' H' (G.trans G')
  | ct => exact fun F' g' σ' H' G' => h F' g' σ' H' (G.trans G')
  | rt d => exact fun v fp F' g' σ' H' G' A r n m => h v fp F' g' σ' H' (G.trans G') A r n fun x hx => G.back (m x hx)
  | ex c fs => exact fun σ' => ExE.grow (h σ') G
theorem soundE_bind {fa : EM} {ta : TE} (sa : SoundE T K P W fa ta) {k : D → EM} {r : R} {Q' : VK} (h : bE fa k env = some (r, env')) (A : Abs T K P F g env σ H)
    (hx : ∀ c fs, r = .ex c fs → ExE T K P W env' F g σ H c fs)
    (kk : ∀ x e1, k x e1 = some (r, env') → ∀ v F1 g1 H1, Grow F g H F1 g1 H1 → Abs T K P F1 g1 e1 σ H1 → Rep T K F1 x v → Q' v H1) : ta σ H Q' := by
  unfold bE at h
  cases e : fa env with
  | none => rw [e] at h; cases h
  | some p =>
    obtain ⟨q, e1⟩ := p
    rw [e] at h
    cases q with
    | ok x => exact sa env _ _ e F g σ H Q' A fun v F1 g1 H1 G A1 R1 => kk x e1 h v F1 g1 H1 G A1 R1
    | ex c fs =>
      simp only [Option.some.injEq, Prod.mk.injEq] at h
      obtain ⟨rfl, rfl⟩ := h
      exact sa env _ _ e F g σ H Q' A (hx c fs rfl)
theorem soundEB_bind {fa : EM} {ta : TE} (sa : SoundE T K P W fa ta) {k : D → BM} {r : RB} {Q' : VK} (h : bB fa k env = some (r, env')) (A : Abs T K P F g env σ H)
    (hx : ∀ c fs, r = .ex c fs → ExE T K P W env' F g σ H c fs)
    (kk : ∀ x e1, k x e1 = some (r, env') → ∀ v F1 g1 H1, Grow F g H F1 g1 H1 → Abs T K P F1 g1 e1 σ H1 → Rep T K F1 x v → Q' v H1) : ta σ H Q' := by
  unfold bB at h
  cases e : fa env with
  | none => rw [e] at h; cases h
  | some p =>
    obtain ⟨q, e1⟩ := p
    rw [e] at h
    cases q with
    | ok x => exact sa env _ _ e F g σ H Q' A fun v F1 g1 H1 G A1 R1 => kk x e1 h v F1 g1 H1 G A1 R1
    | ex c fs =>
      simp only [Option.some.injEq, Prod.mk.injEq] at h
      obtain ⟨rfl, rfl⟩ := h
      exact sa env _ _ e F g σ H Q' A (hx c fs rfl)
theorem soundA_bind {fa : AM} {ta : TA} (sa : SoundA T K P W fa ta) {k : List Ag → EM} {r : R} {Q' : List V → Hp → Prop} (h : bA fa k env = some (r, env')) (A : Abs T K P F g env σ H)
    (hx : ∀ c fs, r = .ex c fs → ExE T K P W env' F g σ H c fs)
    (kk : ∀ x e1, k x e1 = some (r, env') → ∀ vs F1 g1 H1, Grow F g H F1 g1 H1 → Abs T K P F1 g1 e1 σ H1 → AgRs T K F1 σ x vs → Q' vs H1) : ta σ H Q' := by
  unfold bA at h
  cases e : fa env with
  | none => rw [e] at h; cases h
  | some p =>
    obtain ⟨q, e1⟩ := p
    rw [e] at h
    cases q with
    | ok x => exact sa env _ _ e F g σ H Q' A fun v F1 g1 H1 G A1 R1 => kk x e1 h v F1 g1 H1 G A1 R1
    | ex c fs =>
      simp only [Option.some.injEq, Prod.mk.injEq] at h
      obtain ⟨rfl, rfl⟩ := h
      exact sa env _ _ e F g σ H Q' A (hx c fs rfl)
theorem soundB_bind {fa : BM} {ta : TT} (sa : SoundB T K P W fa ta) {k : Bool → EM} {r : R} {Q' : Bool → Hp → Prop} (h : cB fa k env = some (r, env')) (A : Abs T K P F g env σ H)
    (hx : ∀ c fs, r = .ex c fs → ExE T K P W env' F g σ H c fs)
    (kk : ∀ x e1, k x e1 = some (r, env') → ∀ F1 g1 H1, Grow F g H F1 g1 H1 → Abs T K P F1 g1 e1 σ H1 → Q' x H1) : ta σ H Q' := by
  unfold cB at h
  cases e : fa env with
  | none => rw [e] at h; cases h
  | some p =>
    obtain ⟨q, e1⟩ := p
    rw [e] at h
    cases q with
    | ok x => exact sa env _ _ e F g σ H Q' A fun F1 g1 H1 G A1 => kk x e1 h F1 g1 H1 G A1
    | ex c fs =>
      simp only [Option.some.injEq, Prod.mk.injEq] at h
      obtain ⟨rfl, rfl⟩ := h
      exact sa env _ _ e F g σ H Q' A (hx c fs rfl)
theorem soundBB_bind {fa : BM} {ta : TT} (sa : SoundB T K P W fa ta) {k : Bool → BM} {r : RB} {Q' : Bool → Hp → Prop} (h : cBB fa k env = some (r, env')) (A : Abs T K P F g env σ H)
    (hx : ∀ c fs, r = .ex c fs → ExE T K P W env' F g σ H c fs)
    (kk : ∀ x e1, k x e1 = some (r, env') → ∀ F1 g1 H1, Grow F g H F1 g1 H1 → Abs T K P F1 g1 e1 σ H1 → Q' x H1) : ta σ H Q' := by
  unfold cBB at h
  cases e : fa env with
  | none => rw [e] at h; cases h
  | some p =>
    obtain ⟨q, e1⟩ := p
    rw [e] at h
    cases q with
    | ok x => exact sa env _ _ e F g σ H Q' A fun F1 g1 H1 G A1 => kk x e1 h F1 g1 H1 G A1
    | ex c fs =>
      simp only [Option.some.injEq, Prod.mk.injEq] at h
      obtain ⟨rfl, rfl⟩ := h
      exact sa env _ _ e F g σ H Q' A (hx c fs rfl)
theorem PostE.exx {Q : VK} {r : R} (h : PostE T K P W env' F g σ H Q r) : ∀ c fs, r = .ex c fs → ExE T K P W env' F g σ H c fs := fun c fs e => by subst e; exact h
theorem PostB.exx {Q : Bool → Hp → Prop} {r : RB} (h : PostB T K P W env' F g σ H Q r) : ∀ c fs, r = .ex c fs → ExE T K P W env' F g σ H c fs := fun c fs e => by subst e; exact h
theorem PostA.exx {Q : List V → Hp → Prop} {r : RA} (h : PostA T K P W env' F g σ H Q r) : ∀ c fs, r = .ex c fs → ExE T K P W env' F g σ H c fs := fun c fs e => by subst e; exact h
theorem lift_eq {o : Option D} {r : R} (h : lift o env = some (r, env')) : ∃ d, o = some d ∧ r = .ok d ∧ env' = env := by
  unfold lift at h
  cases o with
  | none => cases h
  | some d =>
    simp only [Option.some.injEq, Prod.mk.injEq] at h
    exact ⟨d, rfl, h.1.symm, h.2.symm⟩
end
/-! ### new plain things -/
inductive New (F H : Hp) : Hp → Hp → Prop
  | refl : New F H F H
  | lay {F1 H1 : Hp} {p : Addr} {o : HO} : New F H F1 H1 → H1 p = none → New F H (upd F1 p o) (upd H1 p o)
theorem New.one {F H : Hp} {p : Addr} {o : HO} (h : H p = none) : New F H (upd F p o) (upd H p o) := .lay .refl h
section
variable {T : Tb} {K : PySem.W.Frag} {P : Nat → Option V} {W : WX} {F F' H H' : Hp} {g : Nat → List Addr} {env : DEnv} {σ : L2.St}
theorem New.sub (n : New F H F' H') (s : Same F H) : Same F' H' := by
  induction n with
  | refl => exact s
  | @lay F1 H1 p o _ h ih =>
    intro b u e
    by_cases q : b = p
    · subst q; rw [upd_same] at e ⊢; exact e
    · rw [upd_ne q] at e ⊢; exact ih _ _ e
theorem New.up (n : New F H F' H') (s : Same F H) : Same F F' := by
  induction n with
  | refl => exact Same.refl _
  | @lay F1 H1 p o n1 h ih => exact ih.trans fun b u e => by rw [upd_ne (ne_of_none e ((n1.sub s).free h))]; exact e
theorem New.abs (n : New F H F' H') (A : Abs T K P F g env σ H) : Abs T K P F' g env σ H' := by
  induction n with
  | refl => exact A
  | lay _ h ih => exact ih.laid h
theorem New.grow (n : New F H F' H') (A : Abs T K P F g env σ H) : Grow F g H F' g H' := by
  induction n with
  | refl => exact Grow.refl _ _ _
  | lay n1 h ih => exact ih.trans (grow_laid (n1.abs A).sub h)
end
/-! ### names, constants -/
def dVar (i : Nat) : EM := fun env => match env[i]? with
  | some (some d) => if d.sh = true then some (.ok d, env) else none
  | _ => none
def dC (d : D) : EM := fun env => some (.ok d, env)
section
variable {T : Tb} {X : Cx} {P : Nat → Option V} {W : WX}
theorem sound_var {K : PySem.W.Frag} (i : Nat) : SoundE T K P W (dVar i) (tVar i) := by
  intro env r env' h F g σ H Q A post
  unfold dVar at h
  split at h
  · rename_i d e
    split at h
    · rename_i s
      simp only [Option.some.injEq, Prod.mk.injEq] at h
      obtain ⟨rfl, rfl⟩ := h
      obtain ⟨v, h1, h2⟩ := A.at_ i d e
      exact ⟨v, h1, post v F g H (Grow.refl _ _ _) A ((slotO_sh s).mp h2).2⟩
    · cases h
  · cases h
theorem de_var {e : Expr} {i : Nat} (h : PE X e (tVar i)) : DE T X P W e (dVar i) := ⟨_, h, sound_var i⟩
theorem sound_c {K : PySem.W.Frag} {d : D} {v : V} (hr : ∀ F, Rep T K F d v) : SoundE T K P W (dC d) (tC v) := by
  intro env r env' h F g σ H Q A post
  unfold dC at h
  simp only [Option.some.injEq, Prod.mk.injEq] at h
  obtain ⟨rfl, rfl⟩ := h
  exact post v F g H (Grow.refl _ _ _) A (hr F)
theorem de_c {e : Expr} {v : V} (d : D) (h : PE X e (tC v)) (hr : ∀ F, Rep T X.K F d v) : DE T X P W e (dC d) := ⟨_, h, sound_c hr⟩
theorem rep_str {K : PySem.W.Frag} {F : Hp} {x : Str} {l : List Nat} (h : (decide (x.cps.toList = l) && strB l) = true) : Rep T K F (.str l) (.str x) := by
  obtain ⟨h1, h2⟩ := Bool.and_eq_true_iff.mp h
  simp only [Rep]
  refine ⟨?_, h2⟩
  have e := of_decide_eq_true h1
  cases x; simp at e; subst e; simp
theorem de_int {i : Int} {j pos} : DE T X P W (.Constant (.int i) j pos) (dC (.int i)) := de_c _ pe_int fun F => by simp only [Rep]
theorem de_bl {b : Bool} {j pos} : DE T X P W (.Constant (.bool b) j pos) (dC (.bl b)) := de_c _ pe_bl fun F => by simp only [Rep]
theorem de_non {j pos} : DE T X P W (.Constant .none j pos) (dC .non) := de_c _ pe_non fun F => by simp only [Rep]
theorem de_str {x : Str} (l : List Nat) {j pos} (h : (decide (x.cps.toList = l) && strB l) = true) : DE T X P W (.Constant (.str x) j pos) (dC (.str l)) := de_c _ pe_str fun F => rep_str h
/-- a module's int, text -/
theorem de_gint {x : Str} (i : Int) {pos : Pos} (hg : Gl X x) (hm : ∃ t, X.mg x = some (.int i t)) (hd : (x == ("__debug__" : Str)) = false := by decide +kernel) : DE T X P W (.Name x pos) (dC (.int i)) := by
  obtain ⟨t, hm⟩ := hm
  exact de_c (v := .int i) _ (pe_glob hg hm ⟨t, rfl⟩ hd) fun F => by simp only [Rep]
theorem de_gstr {x z : Str} (l : List Nat) {pos : Pos} (hg : Gl X x) (hm : ∃ t, X.mg x = some (.str z t)) (h : (decide (z.cps.toList = l) && strB l) = true) (hd : (x == ("__debug__" : Str)) = false := by decide +kernel) : DE T X P W (.Name x pos) (dC (.str l)) := by
  obtain ⟨t, hm⟩ := hm
  exact de_c (v := .str z) _ (pe_glob hg hm ⟨t, rfl⟩ hd) fun F => rep_str h
end
/-! ### operators -/
/-- r, by values, is answered by op -/
def OpS (T : Tb) (K : PySem.W.Frag) (r : R2) (op : D → D → Option D) : Prop :=
  ∀ x y z, op x y = some z → ∀ F H vx vy Q, Same F H → Rep T K F x vx → Rep T K F y vy → (∀ v F' H', New F H F' H' → Rep T K F' z v → Q v H') → r vx vy H Q
def UnS (T : Tb) (K : PySem.W.Frag) (r : V → Hp → VK → Prop) (op : D → Option D) : Prop :=
  ∀ x z, op x = some z → ∀ F H vx Q, Same F H → Rep T K F x vx → (∀ v F' H', New F H F' H' → Rep T K F' z v → Q v H') → r vx H Q
def CallS (T : Tb) (K : PySem.W.Frag) (r : List V → Hp → VK → Prop) (f : List D → Option D) : Prop :=
  ∀ xs z, f xs = some z → ∀ F H vs Q, Same F H → Reps T K F xs vs → (∀ v F' H', New F H F' H' → Rep T K F' z v → Q v H') → r vs H Q
def dOp (f : D → D → Option D) (fa fb : EM) : EM := bE fa fun x => bE fb fun y => lift (f x y)
def dUn (f : D → Option D) (fa : EM) : EM := bE fa fun x => lift (f x)
section
variable {T : Tb} {X : Cx} {P : Nat → Option V} {W : WX} {K : PySem.W.Frag}
theorem sound_op {r : R2} {f : D → D → Option D} (hs : OpS T K r f) {fa fb : EM} {ta tb : TE} (sa : SoundE T K P W fa ta) (sb : SoundE T K P W fb tb) : SoundE T K P W (dOp f fa fb) (tOp r ta tb) := by
  intro env o env' h F g σ H Q A post
  refine soundE_bind sa h A post.exx fun x e1 h1 vx F1 g1 H1 G1 A1 R1 => ?_
  refine soundE_bind sb h1 A1 (post.grow G1).exx fun y e2 h2 vy F2 g2 H2 G2 A2 R2 => ?_
  obtain ⟨z, hz, rfl, rfl⟩ := lift_eq h2
  refine hs x y z hz F2 H2 vx vy Q A2.sub (R1.mono G2.sub _ _) R2 fun v F3 H3 n R3 => ?_
  exact post v F3 g2 H3 ((G1.trans G2).trans (n.grow A2)) (n.abs A2) R3
theorem sound_un {r : V → Hp → VK → Prop} {f : D → Option D} (hs : UnS T K r f) {fa : EM} {ta : TE} (sa : SoundE T K P W fa ta) : SoundE T K P W (dUn f fa) (tUn r ta) := by
  intro env o env' h F g σ H Q A post
  refine soundE_bind sa h A post.exx fun x e1 h1 vx F1 g1 H1 G1 A1 R1 => ?_
  obtain ⟨z, hz, rfl, rfl⟩ := lift_eq h1
  refine hs x z hz F1 H1 vx Q A1.sub R1 fun v F3 H3 n R3 => ?_
  exact post v F3 g1 H3 (G1.trans (n.grow A1)) (n.abs A1) R3
variable {a b : Expr} {fa fb : EM} {pos : Pos}
theorem de_op {op : Operator} {r : R2} {f : D → D → Option D} (ho : OpR X (binaryOp op) r) (hs : OpS T X.K r f) (ha : DE T X P W a fa) (hb : DE T X P W b fb) : DE T X P W (.BinOp a op b pos) (dOp f fa fb) := by
  obtain ⟨ta, pa, sa⟩ := ha.ex
  obtain ⟨tb, pb, sb⟩ := hb.ex
  exact ⟨_, pe_op ho pa pb, sound_op hs sa sb⟩
theorem de_un {op : UnaryOp} {r : V → Hp → VK → Prop} {f : D → Option D} (ho : UnR X (unaryOp op) r) (hs : UnS T X.K r f) (ha : DE T X P W a fa) : DE T X P W (.UnaryOp op a pos) (dUn f fa) := by
  obtain ⟨ta, pa, sa⟩ := ha.ex
  exact ⟨_, pe_un ho pa, sound_un hs sa⟩
theorem de_cmp {op : CmpOp} {r : R2} {f : D → D → Option D} (ho : OpR X (compareOp op) r) (hs : OpS T X.K r f) (ha : DE T X P W a fa) (hb : DE T X P W b fb) (hm : behindInMarks op b = false) : DE T X P W (.Compare a [op] [b] pos) (dOp f fa fb) := by
  obtain ⟨ta, pa, sa⟩ := ha.ex
  obtain ⟨tb, pb, sb⟩ := hb.ex
  exact ⟨_, pe_cmpR ho pa pb hm, sound_op hs sa sb⟩
end
theorem OpS.or {T : Tb} {K : PySem.W.Frag} {r r' : R2} {f f' : D → D → Option D} (h : OpS T K r f) (h' : OpS T K r' f') : OpS T K (fun x y H Q => r x y H Q ∨ r' x y H Q) (fun x y => (f x y).or (f' x y)) := by
  intro x y z e F H vx vy Q s rx ry q
  have e' : (f x y).or (f' x y) = some z := e
  cases ef : f x y with
  | some w =>
    rw [ef] at e'
    simp at e'
    subst e'
    exact .inl (h x y w ef F H vx vy Q s rx ry q)
  | none =>
    rw [ef] at e'
    simp at e'
    exact .inr (h' x y z e' F H vx vy Q s rx ry q)
end DS
namespace DS
open PySem PySem.Spec L2
theorem lim_eq : (sizeLine : Nat) = 16777216 := PySem.sizeLine_eq
/-! ### == of data -/
mutual
def deq : D → D → Bool
  | .non, .non => true
  | .bl a, .bl b => a == b
  | .bl a, .int j => (if a then 1 else 0) == j
  | .int i, .bl b => i == (if b then 1 else 0)
  | .int i, .int j => i == j
  | .str x, .str y => x == y
  | .lst xs, .lst ys => deqs xs ys
  | .tup xs, .tup ys => deqs xs ys
  | _, _ => false
def deqs : List D → List D → Bool
  | [], [] => true
  | x :: xs, y :: ys => deq x y && deqs xs ys
  | _, _ => false
end
/-- data of None, bools, ints, texts, lists, tuples, nested at most n deep -/
def okD : Nat → D → Bool
  | _, .non => true
  | _, .bl _ => true
  | _, .int _ => true
  | _, .str _ => true
  | n + 1, .lst xs => xs.all (okD n)
  | n + 1, .tup xs => xs.all (okD n)
  | _, _ => false
mutual
def toP : D → PyData
  | .non => .none
  | .bl b => .bool b
  | .int i => .int i
  | .str x => .str ⟨x.toArray⟩
  | .lst xs => .list (toPs xs)
  | .tup xs => .tuple (toPs xs)
  | _ => .none
def toPs : List D → List PyData
  | [] => []
  | x :: xs => toP x :: toPs xs
end
theorem strOk_of {x : List Nat} (h : strB x = true) : PyData.strOk ⟨x.toArray⟩ = true := by
  unfold strB at h
  have h1 := (Bool.and_eq_true_iff.mp h).1
  show (Array.all x.toArray (fun c => decide (c < 0x110000))) = true
  rw [List.all_toArray]
  rw [List.all_eq_true] at h1 ⊢
  intro c hc
  have := of_decide_eq_true (h1 c hc)
  exact decide_eq_true (by omega)
section
variable {T : Tb} {K : PySem.W.Frag} {F : Hp}
theorem dpAll_of {f : D → Prop} : ∀ {xs : List D} {vs : List V}, (∀ d ∈ xs, ∀ v, Rep T K F d v → Dp K F v (toP d) ∧ (toP d).canLay0 = true) → Reps T K F xs vs → DpAll K F vs (toPs xs) ∧ PyData.canLayAll0 (toPs xs) = true
  | [], vs, _, h => by simp only [Reps] at h; subst h; exact ⟨.nil, by simp [toPs, PyData.canLayAll0]⟩
  | d :: ds, vs, hd, h => by
    obtain ⟨v, r, rfl, h2, h3⟩ := h.uncons
    obtain ⟨a1, a2⟩ := hd d (by simp) v h2
    obtain ⟨b1, b2⟩ := dpAll_of (f := f) (fun e he => hd e (by simp [he])) h3
    exact ⟨.cons a1 b1, by simp [toPs, PyData.canLayAll0, a2, b2]⟩
theorem dp_of : ∀ (n : Nat) (d : D) (v : V), okD n d = true → Rep T K F d v → Dp K F v (toP d) ∧ (toP d).canLay0 = true
  | n, .non, v, _, h => by simp only [Rep] at h; subst h; exact ⟨.non, by simp [toP, PyData.canLay0]⟩
  | n, .bl b, v, _, h => by simp only [Rep] at h; subst h; exact ⟨.bl b, by simp [toP, PyData.canLay0]⟩
  | n, .int i, v, _, h => by simp only [Rep] at h; subst h; exact ⟨.int i, by simp [toP, PyData.canLay0]⟩
  | n, .str x, v, _, h => by simp only [Rep] at h; obtain ⟨rfl, h⟩ := h; exact ⟨.str _, by simp [toP, PyData.canLay0, strOk_of h]⟩
  | n + 1, .lst xs, v, o, h => by
    simp only [Rep] at h
    obtain ⟨a, vs, rfl, h1, h2⟩ := h
    have o' : xs.all (okD n) = true := o
    obtain ⟨b1, b2⟩ := dpAll_of (f := fun _ => True) (fun d hd v hv => dp_of n d v (List.all_eq_true.mp o' d hd) hv) h2
    exact ⟨.lst (SqL.of h1) b1, by simp [toP, PyData.canLay0, b2]⟩
  | n + 1, .tup xs, v, o, h => by
    simp only [Rep] at h
    obtain ⟨a, vs, rfl, h1, h2⟩ := h
    have o' : xs.all (okD n) = true := o
    obtain ⟨b1, b2⟩ := dpAll_of (f := fun _ => True) (fun d hd v hv => dp_of n d v (List.all_eq_true.mp o' d hd) hv) h2
    exact ⟨.tup h1.sq b1, by simp [toP, PyData.canLay0, b2]⟩
  | 0, .lst xs, v, o, h => by simp [okD] at o
  | 0, .tup xs, v, o, h => by simp [okD] at o
  | n, .dic _ _, v, o, h => by cases n <;> simp [okD] at o
  | n, .ins _ _, v, o, h => by cases n <;> simp [okD] at o
  | n, .own _, v, o, h => by cases n <;> simp [okD] at o
  | n, .pin _, v, o, h => by cases n <;> simp [okD] at o
end
theorem depthAll_le {n : Nat} : ∀ {xs : List D}, (∀ d ∈ xs, (toP d).depth ≤ n) → PyData.depthAll (toPs xs) ≤ n
  | [], _ => by simp [toPs, PyData.depthAll]
  | d :: ds, h => by
    have h1 := h d (by simp)
    have h2 := depthAll_le (n := n) (xs := ds) fun e he => h e (by simp [he])
    simp only [toPs, PyData.depthAll]
    exact Nat.max_le.mpr ⟨h1, h2⟩
theorem depth_le : ∀ (n : Nat) (d : D), okD n d = true → (toP d).depth ≤ n
  | n, .non, _ => by simp [toP, PyData.depth]
  | n, .bl b, _ => by simp [toP, PyData.depth]
  | n, .int i, _ => by simp [toP, PyData.depth]
  | n, .str x, _ => by simp [toP, PyData.depth]
  | n + 1, .lst xs, o => by
    have o' : xs.all (okD n) = true := o
    have := depthAll_le (n := n) (xs := xs) fun d hd => depth_le n d (List.all_eq_true.mp o' d hd)
    simp only [toP, PyData.depth]; omega
  | n + 1, .tup xs, o => by
    have o' : xs.all (okD n) = true := o
    have := depthAll_le (n := n) (xs := xs) fun d hd => depth_le n d (List.all_eq_true.mp o' d hd)
    simp only [toP, PyData.depth]; omega
  | 0, .lst xs, o => by simp [okD] at o
  | 0, .tup xs, o => by simp [okD] at o
  | n, .dic _ _, o => by cases n <;> simp [okD] at o
  | n, .ins _ _, o => by cases n <;> simp [okD] at o
  | n, .own _, o => by cases n <;> simp [okD] at o
  | n, .pin _, o => by cases n <;> simp [okD] at o
theorem shaped_of {T : Tb} {K : PySem.W.Frag} {F : Hp} {d : D} {v : V} (o : okD 60 d = true) (h : Rep T K F d v) : SeqAt.shaped (toP d) = true := by
  unfold SeqAt.shaped
  rw [(dp_of 60 d v o h).2, decide_eq_true (by have := depth_le 60 d o; omega)] <;> rfl
theorem str_beq (x y : List Nat) : ((⟨x.toArray⟩ : Str) == ⟨y.toArray⟩) = (x == y) := by
  by_cases e : x = y
  · subst e; simp
  · have h1 : (x == y) = false := beq_eq_false_iff_ne.mpr e
    have h2 : ((⟨x.toArray⟩ : Str) == ⟨y.toArray⟩) = false := beq_eq_false_iff_ne.mpr fun q => e (by
      have q2 := congrArg (fun z : Str => z.cps.toList) q
      simpa using q2)
    rw [h1, h2]
mutual
theorem eqv_deq : ∀ (n m : Nat) (a b : D), okD n a = true → okD m b = true → PyData.eqv (toP a) (toP b) = deq a b
  | n, m, .lst xs, b, oa, ob => by
    cases n with
    | zero => simp [okD] at oa
    | succ n =>
      have oa' : xs.all (okD n) = true := oa
      cases b with
      | lst ys =>
        cases m with
        | zero => simp [okD] at ob
        | succ m =>
          have ob' : ys.all (okD m) = true := ob
          simp only [toP, PyData.eqv, deq]
          exact eqv_deqs n m xs ys oa' ob'
      | _ => first | (simp [toP, PyData.eqv, deq]; done) | (cases m <;> simp [okD] at ob)
  | n, m, .tup xs, b, oa, ob => by
    cases n with
    | zero => simp [okD] at oa
    | succ n =>
      have oa' : xs.all (okD n) = true := oa
      cases b with
      | tup ys =>
        cases m with
        | zero => simp [okD] at ob
        | succ m =>
          have ob' : ys.all (okD m) = true := ob
          simp only [toP, PyData.eqv, deq]
          exact eqv_deqs n m xs ys oa' ob'
      | _ => first | (simp [toP, PyData.eqv, deq]; done) | (cases m <;> simp [okD] at ob)
  | n, m, .str x, b, oa, ob => by
    cases b <;> first | (simp [toP, PyData.eqv, deq]; done) | (simp only [toP, PyData.eqv, deq]; exact str_beq _ _) | (cases m <;> simp [okD] at ob)
  | n, m, .non, b, oa, ob => by
    cases b <;> first | (simp [toP, PyData.eqv, deq]; done) | (cases m <;> simp [okD] at ob)
  | n, m, .bl _, b, oa, ob => by
    cases b <;> first | (simp [toP, PyData.eqv, deq]; done) | (cases m <;> simp [okD] at ob)
  | n, m, .int _, b, oa, ob => by
    cases b <;> first | (simp [toP, PyData.eqv, deq]; done) | (cases m <;> simp [okD] at ob)
  | n, m, .dic _ _, b, oa, ob => by cases n <;> simp [okD] at oa
  | n, m, .ins _ _, b, oa, ob => by cases n <;> simp [okD] at oa
  | n, m, .own _, b, oa, ob => by cases n <;> simp [okD] at oa
  | n, m, .pin _, b, oa, ob => by cases n <;> simp [okD] at oa
theorem eqv_deqs : ∀ (n m : Nat) (xs ys : List D), xs.all (okD n) = true → ys.all (okD m) = true → PyData.eqvAll (toPs xs) (toPs ys) = deqs xs ys
  | n, m, [], [], _, _ => by simp [toPs, PyData.eqvAll, deqs]
  | n, m, [], _ :: _, _, _ => by simp [toPs, PyData.eqvAll, deqs]
  | n, m, _ :: _, [], _, _ => by simp [toPs, PyData.eqvAll, deqs]
  | n, m, x :: xs, y :: ys, ox, oy => by
    rw [List.all_cons, Bool.and_eq_true] at ox oy
    simp only [toPs, PyData.eqvAll, deqs]
    rw [eqv_deq n m x y ox.1 oy.1, eqv_deqs n m xs ys ox.2 oy.2]
end
def oEq (x y : D) : Option D := if (okD 60 x && okD 60 y) = true then some (.bl (deq x y)) else none
def oNe (x y : D) : Option D := if (okD 60 x && okD 60 y) = true then some (.bl (!deq x y)) else none
section
variable {T : Tb} {K : PySem.W.Frag}
theorem s_eq : OpS T K (rEqD K) oEq := by
  intro x y z e F H vx vy Q s rx ry q
  unfold oEq at e
  split at e
  · rename_i o
    obtain ⟨o1, o2⟩ := Bool.and_eq_true_iff.mp o
    cases e
    refine ⟨toP x, toP y, (dp_of 60 x vx o1 (rx.mono s _ _)).1, (dp_of 60 y vy o2 (ry.mono s _ _)).1, shaped_of o1 rx, shaped_of o2 ry, ?_⟩
    rw [eqv_deq 60 60 x y o1 o2]
    exact q _ F H .refl (by simp only [Rep])
  · cases e
theorem s_ne : OpS T K (rNeD K) oNe := by
  intro x y z e F H vx vy Q s rx ry q
  unfold oNe at e
  split at e
  · rename_i o
    obtain ⟨o1, o2⟩ := Bool.and_eq_true_iff.mp o
    cases e
    refine ⟨toP x, toP y, (dp_of 60 x vx o1 (rx.mono s _ _)).1, (dp_of 60 y vy o2 (ry.mono s _ _)).1, shaped_of o1 rx, shaped_of o2 ry, ?_⟩
    rw [eqv_deq 60 60 x y o1 o2]
    exact q _ F H .refl (by simp only [Rep])
  · cases e
end
/-! ### arithmetic -/
/-- i < b, -b ≤ i: told by the sign, so that a letter stops the run at once -/
def ltI (b : Nat) : Int → Bool
  | .ofNat n => Nat.ble (n + 1) b
  | .negSucc _ => true
def geI (b : Nat) : Int → Bool
  | .ofNat _ => true
  | .negSucc n => Nat.ble (n + 1) b
theorem ltI_iff {b : Nat} {i : Int} : ltI b i = true ↔ i < b := by
  cases i with
  | ofNat n => simp only [ltI, Nat.ble_eq, Int.ofNat_eq_natCast]; omega
  | negSucc n => simp only [ltI, true_iff]; omega
theorem geI_iff {b : Nat} {i : Int} : geI b i = true ↔ -(b : Int) ≤ i := by
  cases i with
  | ofNat n => simp only [geI, Int.ofNat_eq_natCast, true_iff]; omega
  | negSucc n => simp only [geI, Nat.ble_eq]; omega
def oI (C : Int → Int → Bool) (f : Int → Int → D) (x y : D) : Option D := match x, y with
  | .int i, .int j => if C i j = true then some (f i j) else none
  | _, _ => none
section
variable {T : Tb} {K : PySem.W.Frag}
theorem rep_int {F : Hp} {i : Int} : Rep T K F (.int i) (.int i) := by simp only [Rep]
theorem rep_bl {F : Hp} {b : Bool} : Rep T K F (.bl b) (.bl b) := by simp only [Rep]
theorem rep_non {F : Hp} : Rep T K F .non .non := by simp only [Rep]
theorem rep_s {F : Hp} {x : List Nat} (h : strB x = true) : Rep T K F (.str x) (.str ⟨x.toArray⟩) := by simp only [Rep]; exact ⟨trivial, h⟩
theorem s_i {C : Int → Int → Prop} {Cb : Int → Int → Bool} {g : Int → Int → V} {f : Int → Int → D} (hc : ∀ i j, Cb i j = true → C i j) (hr : ∀ F i j, Cb i j = true → Rep T K F (f i j) (g i j)) : OpS T K (rI C g) (oI Cb f) := by
  intro x y z e F H vx vy Q s rx ry q
  unfold oI at e
  split at e
  · rename_i i j
    split at e
    · rename_i c
      cases e
      simp only [Rep] at rx ry
      exact ⟨i, j, rx, ry, hc i j c, q _ F H .refl (hr F i j c)⟩
    · cases e
  · cases e
theorem s_i0 {g : Int → Int → V} {f : Int → Int → D} (hr : ∀ F i j, Rep T K F (f i j) (g i j)) : OpS T K (rI0 g) (oI (fun _ _ => true) f) := by
  intro x y z e F H vx vy Q s rx ry q
  unfold oI at e
  split at e
  · rename_i i j
    rw [if_pos rfl] at e
    cases e
    simp only [Rep] at rx ry
    exact ⟨i, j, rx, ry, q _ F H .refl (hr F i j)⟩
  · cases e
def oSub := oI (fun _ _ => true) fun i j => .int (i - j)
theorem s_sub : OpS T K (rI0 fun i j => .int (i - j)) oSub := s_i0 fun _ _ _ => rep_int
def oLt := oI (fun _ _ => true) fun i j => .bl (decide (i < j))
theorem s_lt : OpS T K (rI0 fun i j => .bl (decide (i < j))) oLt := s_i0 fun _ _ _ => rep_bl
def oLe := oI (fun _ _ => true) fun i j => .bl (decide (i ≤ j))
theorem s_le : OpS T K (rI0 fun i j => .bl (decide (i ≤ j))) oLe := s_i0 fun _ _ _ => rep_bl
def oGt := oI (fun _ _ => true) fun i j => .bl (decide (j < i))
theorem s_gt : OpS T K (rI0 fun i j => .bl (decide (j < i))) oGt := s_i0 fun _ _ _ => rep_bl
def oGe := oI (fun _ _ => true) fun i j => .bl (decide (j ≤ i))
theorem s_ge : OpS T K (rI0 fun i j => .bl (decide (j ≤ i))) oGe := s_i0 fun _ _ _ => rep_bl
def oMod := oI (fun _ j => decide (0 < j)) fun i j => .int (i % j)
theorem s_mod : OpS T K (rI (fun _ j => 0 < j) fun i j => .int (i % j)) oMod := s_i (fun _ _ h => of_decide_eq_true h) fun _ _ _ _ => rep_int
def oDiv := oI (fun _ j => decide (0 < j) && ltI 1073741824 j) fun i j => .int (i / j)
theorem s_div : OpS T K (rI CDiv fun i j => .int (i / j)) oDiv := s_i (fun _ _ h => by
  obtain ⟨h1, h2⟩ := Bool.and_eq_true_iff.mp h
  exact ⟨of_decide_eq_true h1, ltI_iff.mp h2⟩) fun _ _ _ _ => rep_int
def oPow := oI (fun i j => decide (0 ≤ j) && (decide (j ≤ 1000000) && decide (i.natAbs < 18446744073709551616))) fun i j => .int (i ^ j.toNat)
theorem s_pow : OpS T K (rI CPow fun i j => .int (i ^ j.toNat)) oPow := s_i (fun _ _ h => by
  obtain ⟨h1, h2⟩ := Bool.and_eq_true_iff.mp h
  obtain ⟨h2, h3⟩ := Bool.and_eq_true_iff.mp h2
  exact ⟨of_decide_eq_true h1, of_decide_eq_true h2, of_decide_eq_true h3⟩) fun _ _ _ _ => rep_int
def oNeg : D → Option D
  | .int i => some (.int (-i))
  | _ => none
theorem s_neg : UnS T K (rU fun i => .int (-i)) oNeg := by
  intro x z e F H vx Q s rx q
  unfold oNeg at e
  split at e
  · rename_i i
    cases e
    simp only [Rep] at rx
    exact ⟨i, rx, q _ F H .refl rep_int⟩
  · cases e
end
/-! ### + -/
def oAdd (x y : D) : Option D := match x, y with
  | .int i, .int j => some (.int (i + j))
  | .str a, .str b => if a.length + b.length ≤ 16777216 then some (.str (a ++ b)) else none
  | .lst a, .lst b => if a.length + b.length ≤ 16777216 then some (.lst (a ++ b)) else none
  | .tup a, .tup b => if a.length + b.length ≤ 16777216 then some (.tup (a ++ b)) else none
  | _, _ => none
abbrev rAddS : R2 := fun x y H Q => ∃ i j, x = .str i ∧ y = .str j ∧ i.length + j.length ≤ sizeLine ∧ Q (.str (i ++ j)) H
def rAddAll (K : PySem.W.Frag) : R2 := fun x y H Q => (rI0 fun i j => .int (i + j)) x y H Q ∨ (rAddS x y H Q ∨ (rCat x y H Q ∨ rCatA K x y H Q))
theorem op_addAll {X : Cx} : OpR X (binaryOp .Add) (rAddAll X.K) := OpR.or op_add (OpR.or op_add_str (OpR.or op_cat op_catA))
theorem strB_append {a b : List Nat} (ha : strB a = true) (hb : strB b = true) (h : a.length + b.length ≤ 16777216) : strB (a ++ b) = true := by
  unfold strB at *
  rw [Bool.and_eq_true] at *
  refine ⟨by rw [List.all_append, ha.1, hb.1] <;> rfl, decide_eq_true (by rw [List.length_append]; exact h)⟩
theorem str_append (a b : List Nat) : (⟨a.toArray⟩ : Str) ++ ⟨b.toArray⟩ = ⟨(a ++ b).toArray⟩ := by
  show (⟨a.toArray ++ b.toArray⟩ : Str) = _
  simp
theorem str_length (a : List Nat) : (⟨a.toArray⟩ : Str).length = a.length := by
  show a.toArray.size = _
  simp
section
variable {T : Tb} {K : PySem.W.Frag}
theorem s_add : OpS T K (rAddAll K) oAdd := by
  intro x y z e F H vx vy Q s rx ry q
  unfold oAdd at e
  split at e
  · rename_i i j
    cases e
    simp only [Rep] at rx ry
    exact .inl ⟨i, j, rx, ry, q _ F H .refl rep_int⟩
  · rename_i a b
    split at e
    · rename_i l
      cases e
      simp only [Rep] at rx ry
      refine .inr (.inl ⟨_, _, rx.1, ry.1, by rw [str_length, str_length, lim_eq]; exact l, ?_⟩)
      rw [str_append]
      exact q _ F H .refl (rep_s (strB_append rx.2 ry.2 l))
    · cases e
  · rename_i a b
    split at e
    · rename_i l
      cases e
      simp only [Rep] at rx ry
      obtain ⟨p1, vs1, rfl, h1, h2⟩ := rx
      obtain ⟨p2, vs2, rfl, h3, h4⟩ := ry
      refine .inr (.inr (.inl ⟨p1, p2, vs1, vs2, rfl, rfl, s _ _ h1, s _ _ h3, ?_, fun p hp => ?_⟩))
      · rw [← h2.length, ← h4.length, lim_eq]; exact l
      · refine q _ _ _ (.one hp) ?_
        have up : Same F (upd F p (.lst (vs1 ++ vs2))) := (New.one hp).up s
        simp only [Rep]
        exact ⟨p, _, rfl, upd_same, (Reps.mono up _ _ h2).append (Reps.mono up _ _ h4)⟩
    · cases e
  · rename_i a b
    split at e
    · rename_i l
      cases e
      have rx' := rx
      have ry' := ry
      simp only [Rep] at rx ry
      obtain ⟨p1, vs1, rfl, h1, h2⟩ := rx
      obtain ⟨p2, vs2, rfl, h3, h4⟩ := ry
      refine .inr (.inr (.inr ⟨p1, p2, vs1, vs2, rfl, rfl, same_sqT s h1.sq, same_sqT s h3.sq, by rw [← h2.length, ← h4.length, lim_eq]; exact l, fun h => ?_, fun _ h => ?_, fun _ _ p hp => ?_⟩))
      · subst h
        have e0 : a = [] := by have := h2.length; cases a <;> simp at this ⊢
        subst e0
        exact q _ F H .refl ry'
      · subst h
        have e0 : b = [] := by have := h4.length; cases b <;> simp at this ⊢
        subst e0
        rw [List.append_nil] at q
        exact q _ F H .refl rx'
      · refine q _ _ _ (.one hp) ?_
        have up : Same F (upd F p (.tup (vs1 ++ vs2))) := (New.one hp).up s
        simp only [Rep]
        exact ⟨p, _, rfl, .inl upd_same, (Reps.mono up _ _ h2).append (Reps.mono up _ _ h4)⟩
    · cases e
  · cases e
end
end DS
namespace DS
open PySem PySem.Spec L2
/-! ### truth -/
def tru : D → Option Bool
  | .non => some false
  | .bl b => some b
  | .int i => some (i != 0)
  | .str x => some (!x.isEmpty)
  | .lst xs => some (!xs.isEmpty)
  | .tup xs => some (!xs.isEmpty)
  | _ => none
theorem reps_isEmpty {T : Tb} {K : PySem.W.Frag} {F : Hp} {xs : List D} {vs : List V} (h : Reps T K F xs vs) : vs.isEmpty = xs.isEmpty := by
  have := h.length
  cases xs <;> cases vs <;> simp at this ⊢
theorem strB_len {x : List Nat} (h : strB x = true) : x.length ≤ 16777216 := of_decide_eq_true (Bool.and_eq_true_iff.mp h).2
theorem tru_of {T : Tb} {K : PySem.W.Frag} {F H : Hp} {d : D} {v : V} {k : Bool} (s : Same F H) (r : Rep T K F d v) (h : tru d = some k) : TruV K v H k := by
  cases d with
  | non => simp only [Rep] at r; subst r; simp only [tru, Option.some.injEq] at h; exact h.symm
  | bl b => simp only [Rep] at r; subst r; simp only [tru, Option.some.injEq] at h; exact h.symm
  | int i => simp only [Rep] at r; subst r; simp only [tru, Option.some.injEq] at h; exact h.symm
  | str x =>
    simp only [Rep] at r
    obtain ⟨rfl, h2⟩ := r
    simp only [tru, Option.some.injEq] at h
    refine ⟨by rw [str_length, lim_eq]; exact strB_len h2, ?_⟩
    rw [str_length, ← h]
    cases x <;> simp
    omega
  | lst xs =>
    simp only [Rep] at r
    obtain ⟨a, vs, rfl, h1, h2⟩ := r
    simp only [tru, Option.some.injEq] at h
    exact .inl ⟨vs, SqL.of (s _ _ h1), by rw [reps_isEmpty h2]; exact h.symm⟩
  | tup xs =>
    simp only [Rep] at r
    obtain ⟨a, vs, rfl, h1, h2⟩ := r
    simp only [tru, Option.some.injEq] at h
    exact .inr (.inl ⟨vs, same_sqT s h1.sq, by rw [reps_isEmpty h2]; exact h.symm⟩)
  | dic _ _ => cases h
  | ins _ _ => cases h
  | own _ => cases h
  | pin _ => cases h
/-! ### tests -/
def toB (f : EM) : BM := bB f fun x => match x with
  | .bl b => retB b
  | _ => noB
def truB (f : EM) : BM := bB f fun x => match tru x with
  | some b => retB b
  | none => noB
def notB (f : BM) : BM := cBB f fun b => retB (!b)
def andB (f h : BM) : BM := cBB f fun b => match b with
  | true => h
  | false => retB false
def orB (f h : BM) : BM := cBB f fun b => match b with
  | true => retB true
  | false => h
theorem retB_eq {b : Bool} {env env' : DEnv} {r : RB} (h : retB b env = some (r, env')) : r = .ok b ∧ env' = env := by
  unfold retB at h
  simp only [Option.some.injEq, Prod.mk.injEq] at h
  exact ⟨h.1.symm, h.2.symm⟩
section
variable {T : Tb} {X : Cx} {P : Nat → Option V} {W : WX} {K : PySem.W.Frag}
theorem sound_toB {f : EM} {t : TE} (sa : SoundE T K P W f t) : SoundB T K P W (toB f) (tB t) := by
  intro env o env' h F g σ H Q A post
  refine soundEB_bind sa h A post.exx fun x e1 h1 v F1 g1 H1 G1 A1 R1 => ?_
  cases x with
  | bl b =>
    obtain ⟨rfl, rfl⟩ := retB_eq h1
    simp only [Rep] at R1
    exact ⟨b, R1, post F1 g1 H1 G1 A1⟩
  | _ => cases h1
theorem sound_test {f : EM} {t : TE} (sa : SoundE T K P W f t) : SoundB T K P W (toB f) (tTest t) := sound_toB sa
def tTru (K : PySem.W.Frag) (t : TE) : TT := fun σ H Q => t σ H fun x H' => ∃ k, TruV K x H' k ∧ Q k H'
theorem sound_truB {f : EM} {t : TE} (sa : SoundE T K P W f t) : SoundB T K P W (truB f) (tTru K t) := by
  intro env o env' h F g σ H Q A post
  refine soundEB_bind sa h A post.exx fun x e1 h1 v F1 g1 H1 G1 A1 R1 => ?_
  cases e : tru x with
  | none => rw [e] at h1; cases h1
  | some b =>
    rw [e] at h1
    obtain ⟨rfl, rfl⟩ := retB_eq h1
    exact ⟨b, tru_of A1.sub R1 e, post F1 g1 H1 G1 A1⟩
theorem sound_notB {f : BM} {t : TT} (sa : SoundB T K P W f t) : SoundB T K P W (notB f) (tNot t) := by
  intro env o env' h F g σ H Q A post
  refine soundBB_bind sa h A post.exx fun x e1 h1 F1 g1 H1 G1 A1 => ?_
  obtain ⟨rfl, rfl⟩ := retB_eq h1
  exact post F1 g1 H1 G1 A1
theorem sound_andB {f h : BM} {t u : TT} (sa : SoundB T K P W f t) (sb : SoundB T K P W h u) : SoundB T K P W (andB f h) (tAnd t u) := by
  intro env o env' h F g σ H Q A post
  refine soundBB_bind sa h A post.exx fun x e1 h1 F1 g1 H1 G1 A1 => ?_
  cases x with
  | true => rw [if_pos rfl]; exact sb _ _ _ h1 F1 g1 σ H1 Q A1 (post.grow G1)
  | false =>
    rw [if_neg Bool.false_ne_true]
    obtain ⟨rfl, rfl⟩ := retB_eq h1
    exact post F1 g1 H1 G1 A1
theorem sound_orB {f h : BM} {t u : TT} (sa : SoundB T K P W f t) (sb : SoundB T K P W h u) : SoundB T K P W (orB f h) (tOr t u) := by
  intro env o env' h F g σ H Q A post
  refine soundBB_bind sa h A post.exx fun x e1 h1 F1 g1 H1 G1 A1 => ?_
  cases x with
  | false => rw [if_neg Bool.false_ne_true]; exact sb _ _ _ h1 F1 g1 σ H1 Q A1 (post.grow G1)
  | true =>
    rw [if_pos rfl]
    obtain ⟨rfl, rfl⟩ := retB_eq h1
    exact post F1 g1 H1 G1 A1
variable {a b c : Expr} {rest : List Expr} {fa fb fc : EM} {ba bb : BM} {pos : Pos}
/-- a comparison as a test -/
theorem dt_cmp {op : CmpOp} {r : R2} {f : D → D → Option D} (ho : OpR X (compareOp op) r) (hs : OpS T X.K r f) (ha : DE T X P W a fa) (hb : DE T X P W b fb) (hm : behindInMarks op b = false) : DT T X P W (.Compare a [op] [b] pos) (toB (dOp f fa fb)) := by
  obtain ⟨ta, pa, sa⟩ := ha.ex
  obtain ⟨tb, pb, sb⟩ := hb.ex
  exact ⟨_, pt_cmpR ho pa pb hm, sound_test (sound_op hs sa sb)⟩
/-- any other expression as a test -/
theorem dt_val (ha : DE T X P W a fa) (he : ∀ whole, isTrue a X.env whole = (do let v ← whole; standAt a.pos; holding [v] (truthy v))) : DT T X P W a (truB fa) := by
  obtain ⟨ta, pa, sa⟩ := ha.ex
  exact ⟨_, pt_truth pa he, sound_truB sa⟩
theorem dt_not (ha : DT T X P W a ba) : DT T X P W (.UnaryOp .Not a pos) (notB ba) := by
  obtain ⟨ta, pa, sa⟩ := ha.ex
  exact ⟨_, pt_not pa, sound_notB sa⟩
theorem dt_dw (ha : DW T X P W a ba) : DT T X P W a ba := by
  obtain ⟨ta, pa, sa⟩ := ha.ex
  exact ⟨_, pa.pt, sa⟩
theorem dw_and1 (ha : DT T X P W a ba) : DW T X P W (.BoolOp .And [a] pos) ba := by
  obtain ⟨ta, pa, sa⟩ := ha.ex
  exact ⟨_, pw_and1 pa, sa⟩
theorem dw_or1 (ha : DT T X P W a ba) : DW T X P W (.BoolOp .Or [a] pos) ba := by
  obtain ⟨ta, pa, sa⟩ := ha.ex
  exact ⟨_, pw_or1 pa, sa⟩
theorem dw_and (ha : DT T X P W a ba) (hb : DW T X P W (.BoolOp .And (b :: rest) pos) bb) : DW T X P W (.BoolOp .And (a :: b :: rest) pos) (andB ba bb) := by
  obtain ⟨ta, pa, sa⟩ := ha.ex
  obtain ⟨tb, pb, sb⟩ := hb.ex
  exact ⟨_, pw_and pa pb, sound_andB sa sb⟩
theorem dw_or (ha : DT T X P W a ba) (hb : DW T X P W (.BoolOp .Or (b :: rest) pos) bb) : DW T X P W (.BoolOp .Or (a :: b :: rest) pos) (orB ba bb) := by
  obtain ⟨ta, pa, sa⟩ := ha.ex
  obtain ⟨tb, pb, sb⟩ := hb.ex
  exact ⟨_, pw_or pa pb, sound_orB sa sb⟩
/-! ### as values -/
def andV (f h : EM) : EM := bE f fun x => match tru x with
  | some true => h
  | some false => dC x
  | none => lift none
def orV (f h : EM) : EM := bE f fun x => match tru x with
  | some true => dC x
  | some false => h
  | none => lift none
def notV (f : EM) : EM := bE f fun x => match tru x with
  | some b => dC (.bl (!b))
  | none => lift none
def ifV (c : BM) (f h : EM) : EM := cB c fun b => match b with
  | true => f
  | false => h
theorem dC_eq {d : D} {env env' : DEnv} {r : R} (h : dC d env = some (r, env')) : r = .ok d ∧ env' = env := by
  unfold dC at h
  simp only [Option.some.injEq, Prod.mk.injEq] at h
  exact ⟨h.1.symm, h.2.symm⟩
theorem de_and (ha : DE T X P W a fa) (hb : DE T X P W (.BoolOp .And (b :: rest) pos) fb) : DE T X P W (.BoolOp .And (a :: b :: rest) pos) (andV fa fb) := by
  obtain ⟨ta, pa, sa⟩ := ha.ex
  obtain ⟨tb, pb, sb⟩ := hb.ex
  refine ⟨_, pe_andT pa pb, fun env o env' h F g σ H Q A post => ?_⟩
  refine soundE_bind sa h A post.exx fun x e1 h1 v F1 g1 H1 G1 A1 R1 => ?_
  cases e : tru x with
  | none => rw [e] at h1; cases h1
  | some k =>
    rw [e] at h1
    refine ⟨k, tru_of A1.sub R1 e, ?_⟩
    cases k with
    | true => rw [if_pos rfl]; exact sb _ _ _ h1 F1 g1 σ H1 Q A1 (post.grow G1)
    | false =>
      rw [if_neg Bool.false_ne_true]
      obtain ⟨rfl, rfl⟩ := dC_eq h1
      exact post v F1 g1 H1 G1 A1 R1
theorem de_one {op} (ha : DE T X P W a fa) : DE T X P W (.BoolOp op [a] pos) fa := by
  obtain ⟨ta, pa, sa⟩ := ha.ex
  exact ⟨_, pe_one pa, sa⟩
theorem de_not (ha : DE T X P W a fa) : DE T X P W (.UnaryOp .Not a pos) (notV fa) := by
  obtain ⟨ta, pa, sa⟩ := ha.ex
  refine ⟨_, pe_notT pa, fun env o env' h F g σ H Q A post => ?_⟩
  refine soundE_bind sa h A post.exx fun x e1 h1 v F1 g1 H1 G1 A1 R1 => ?_
  cases e : tru x with
  | none => rw [e] at h1; cases h1
  | some k =>
    rw [e] at h1
    obtain ⟨rfl, rfl⟩ := dC_eq h1
    exact ⟨k, tru_of A1.sub R1 e, post _ F1 g1 H1 G1 A1 rep_bl⟩
theorem de_if (hc : DT T X P W c ba) (ha : DE T X P W a fa) (hb : DE T X P W b fb) : DE T X P W (.IfExp c a b pos) (ifV ba fa fb) := by
  obtain ⟨tc, pc, sc⟩ := hc.ex
  obtain ⟨ta, pa, sa⟩ := ha.ex
  obtain ⟨tb, pb, sb⟩ := hb.ex
  refine ⟨_, pe_ifExp pc pa pb, fun env o env' h F g σ H Q A post => ?_⟩
  refine soundB_bind sc h A post.exx fun x e1 h1 F1 g1 H1 G1 A1 => ?_
  cases x with
  | true => rw [if_pos rfl]; exact sa _ _ _ h1 F1 g1 σ H1 Q A1 (post.grow G1)
  | false => rw [if_neg Bool.false_ne_true]; exact sb _ _ _ h1 F1 g1 σ H1 Q A1 (post.grow G1)
/-! ### a < b < c -/
def chainV (f f' : D → D → Option D) (fa fb fc : EM) : EM := bE fa fun x => bE fb fun y => bE (lift (f x y)) fun z => match z with
  | .bl true => bE fc fun w => lift (f' y w)
  | .bl false => dC (.bl false)
  | _ => lift none
theorem sound_chain {r r' : R2} {f f' : D → D → Option D} (hs : OpS T K r f) (hs' : OpS T K r' f') {ta tb tc : TE} (sa : SoundE T K P W fa ta) (sb : SoundE T K P W fb tb) (sc : SoundE T K P W fc tc) :
    SoundE T K P W (chainV f f' fa fb fc) (tChain r r' ta tb tc) := by
  intro env o env' h F g σ H Q A post
  refine soundE_bind sa h A post.exx fun x e1 h1 vx F1 g1 H1 G1 A1 R1 => ?_
  refine soundE_bind sb h1 A1 (post.grow G1).exx fun y e2 h2 vy F2 g2 H2 G2 A2 R2 => ?_
  cases e : f x y with
  | none => rw [e] at h2; cases h2
  | some z =>
    rw [e] at h2
    refine hs x y z e F2 H2 vx vy _ A2.sub (R1.mono G2.sub _ _) R2 fun v F3 H3 n R3 => ?_
    have A3 := n.abs A2
    have G3 := (G1.trans G2).trans (n.grow A2)
    cases z with
    | bl k =>
      simp only [Rep] at R3
      refine ⟨k, R3, ?_⟩
      cases k with
      | true =>
        rw [if_pos rfl]
        have h2' : bE fc (fun w => lift (f' y w)) e2 = some (o, env') := h2
        refine soundE_bind sc h2' A3 (post.grow G3).exx fun w e4 h4 vw F4 g4 H4 G4 A4 R4 => ?_
        obtain ⟨z', hz, rfl, rfl⟩ := lift_eq h4
        refine hs' y w z' hz F4 H4 vy vw Q A4.sub ((R2.mono (n.up A2.sub) _ _).mono G4.sub _ _) R4 fun v' F5 H5 n5 R5 => ?_
        exact post v' F5 g4 H5 ((G3.trans G4).trans (n5.grow A4)) (n5.abs A4) R5
      | false =>
        rw [if_neg Bool.false_ne_true]
        have h2' : dC (.bl false) e2 = some (o, env') := h2
        obtain ⟨rfl, rfl⟩ := dC_eq h2'
        exact post _ F3 g2 H3 G3 A3 rep_bl
    | _ => cases h2
theorem de_chain {op op' : CmpOp} {r r' : R2} {f f' : D → D → Option D} (ho : OpR X (compareOp op) r) (hs : OpS T X.K r f) (ho' : OpR X (compareOp op') r') (hs' : OpS T X.K r' f') (ha : DE T X P W a fa) (hb : DE T X P W b fb) (hc : DE T X P W c fc)
    (hm : lastMarks [op, op'] [b, c] = false) : DE T X P W (.Compare a [op, op'] [b, c] pos) (chainV f f' fa fb fc) := by
  obtain ⟨ta, pa, sa⟩ := ha.ex
  obtain ⟨tb, pb, sb⟩ := hb.ex
  obtain ⟨tc, pc, sc⟩ := hc.ex
  exact ⟨_, pe_chain ho ho' pa pb pc hm, sound_chain hs hs' sa sb sc⟩
theorem dt_chain {op op' : CmpOp} {r r' : R2} {f f' : D → D → Option D} (ho : OpR X (compareOp op) r) (hs : OpS T X.K r f) (ho' : OpR X (compareOp op') r') (hs' : OpS T X.K r' f') (ha : DE T X P W a fa) (hb : DE T X P W b fb) (hc : DE T X P W c fc)
    (hm : lastMarks [op, op'] [b, c] = false) : DT T X P W (.Compare a [op, op'] [b, c] pos) (toB (chainV f f' fa fb fc)) := by
  obtain ⟨ta, pa, sa⟩ := ha.ex
  obtain ⟨tb, pb, sb⟩ := hb.ex
  obtain ⟨tc, pc, sc⟩ := hc.ex
  exact ⟨_, pt_chain ho ho' pa pb pc hm, sound_test (sound_chain hs hs' sa sb sc)⟩
/-! ### is None -/
def isNonV (f : EM) : EM := bE f fun x => match x with
  | .non => dC (.bl true)
  | _ => dC (.bl false)
def notNonV (f : EM) : EM := bE f fun x => match x with
  | .non => dC (.bl false)
  | _ => dC (.bl true)
theorem rep_non_iff {F : Hp} {d : D} {v : V} (h : Rep T K F d v) : (v = .non) = (d = .non) := by
  apply propext
  cases d <;> simp only [Rep] at h
  case non => subst h; simp
  case bl => subst h; simp
  case int => subst h; simp
  case str => rw [h.1]; simp
  case tup => obtain ⟨a, vs, rfl, _⟩ := h; simp
  case lst => obtain ⟨a, vs, rfl, _⟩ := h; simp
  case dic => obtain ⟨a, rfl, _⟩ := h; simp
  case ins => obtain ⟨a, _, _, _, rfl, _⟩ := h; simp
theorem sound_isN {t : TE} (sa : SoundE T K P W fa t) : SoundE T K P W (isNonV fa) (tIsN t) := by
  intro env o env' h F g σ H Q A post
  refine soundE_bind sa h A post.exx fun x e1 h1 v F1 g1 H1 G1 A1 R1 => ?_
  have e := rep_non_iff R1
  cases x with
  | non =>
    obtain ⟨rfl, rfl⟩ := dC_eq h1
    have ev : v = .non := by rw [e]
    show Q (.bl (decide (v = .non))) H1
    rw [decide_eq_true ev]
    exact post _ F1 g1 H1 G1 A1 rep_bl
  | _ =>
    obtain ⟨rfl, rfl⟩ := dC_eq h1
    have ev : ¬ v = .non := by rw [e]; simp
    show Q (.bl (decide (v = .non))) H1
    rw [decide_eq_false ev]
    exact post _ F1 g1 H1 G1 A1 rep_bl
theorem sound_notN {t : TE} (sa : SoundE T K P W fa t) : SoundE T K P W (notNonV fa) (tNotN t) := by
  intro env o env' h F g σ H Q A post
  refine soundE_bind sa h A post.exx fun x e1 h1 v F1 g1 H1 G1 A1 R1 => ?_
  have e := rep_non_iff R1
  cases x with
  | non =>
    obtain ⟨rfl, rfl⟩ := dC_eq h1
    have ev : v = .non := by rw [e]
    show Q (.bl (!decide (v = .non))) H1
    rw [decide_eq_true ev]
    exact post _ F1 g1 H1 G1 A1 rep_bl
  | _ =>
    obtain ⟨rfl, rfl⟩ := dC_eq h1
    have ev : ¬ v = .non := by rw [e]; simp
    show Q (.bl (!decide (v = .non))) H1
    rw [decide_eq_false ev]
    exact post _ F1 g1 H1 G1 A1 rep_bl
theorem de_isN {j p} (ha : DE T X P W a fa) : DE T X P W (.Compare a [.Is] [.Constant .none j p] pos) (isNonV fa) := by
  obtain ⟨ta, pa, sa⟩ := ha.ex
  exact ⟨_, pe_cmp (pc_isN pa) (nobehind _ (by decide) (by decide)), sound_isN sa⟩
theorem dt_isN {j p} (ha : DE T X P W a fa) : DT T X P W (.Compare a [.Is] [.Constant .none j p] pos) (toB (isNonV fa)) := by
  obtain ⟨ta, pa, sa⟩ := ha.ex
  exact ⟨_, pt_cmp (pc_isN pa) (nobehind _ (by decide) (by decide)), sound_toB (sound_isN sa)⟩
theorem dt_notN {j p} (ha : DE T X P W a fa) : DT T X P W (.Compare a [.IsNot] [.Constant .none j p] pos) (toB (notNonV fa)) := by
  obtain ⟨ta, pa, sa⟩ := ha.ex
  exact ⟨_, pt_cmp (pc_notN pa) (nobehind _ (by decide) (by decide)), sound_toB (sound_notN sa)⟩
end
end DS
namespace DS
open PySem PySem.Spec L2
/-! ### argument lists -/
def aNil : AM := fun env => some (.ok [], env)
def bAA (fa : EM) (k : D → AM) : AM := fun env => match fa env with
  | some (.ok x, e) => k x e
  | some (.ex c fs, e) => some (.ex c fs, e)
  | none => none
def mapA (f : List Ag → List Ag) (fa : AM) : AM := fun env => match fa env with
  | some (.ok x, e) => some (.ok (f x), e)
  | some (.ex c fs, e) => some (.ex c fs, e)
  | none => none
def aCons (fe : EM) (fr : AM) : AM := bAA fe fun x => mapA (fun r => .sh x :: r) fr
/-- the items of a list or a tuple -/
def itemsOf : D → Option (List D)
  | .lst xs => some xs
  | .tup xs => some xs
  | _ => none
def aStar (fe : EM) (fr : AM) : AM := bAA fe fun x => match itemsOf x with
  | some xs => mapA (fun r => xs.map Ag.sh ++ r) fr
  | none => fun _ => none
def aSlot (j : Nat) (fr : AM) : AM := fun env => match env[j]? with
  | some (some _) => mapA (fun r => .sl j :: r) fr env
  | _ => none
def shs : List Ag → Option (List D)
  | [] => some []
  | .sh d :: r => (shs r).map (d :: ·)
  | .sl _ :: _ => none
def bL (fa : AM) (k : List D → EM) : EM := bA fa fun as => match shs as with
  | some ds => k ds
  | none => lift none
section
variable {T : Tb} {X : Cx} {P : Nat → Option V} {W : WX} {K : PySem.W.Frag} {F F' F1 H H' H1 : Hp} {g g1 : Nat → List Addr} {env env' : DEnv} {σ : L2.St}
theorem AgRs.mono (e : Same F F') : ∀ {as : List Ag} {vs : List V}, AgRs T K F σ as vs → AgRs T K F' σ as vs
  | [], _, h => h
  | .sh d :: r, _, ⟨v, r', h1, h2, h3⟩ => ⟨v, r', h1, Rep.mono e d v h2, AgRs.mono e h3⟩
  | .sl j :: r, _, ⟨v, r', h1, h2, h3⟩ => ⟨v, r', h1, h2, AgRs.mono e h3⟩
theorem shs_reps : ∀ {as : List Ag} {vs : List V} {ds : List D}, AgRs T K F σ as vs → shs as = some ds → Reps T K F ds vs
  | [], vs, ds, h, e => by
    simp only [shs, Option.some.injEq] at e
    subst e
    have h' : vs = [] := h
    subst h'
    exact Reps.nil
  | .sh d :: r, _, ds, ⟨v, r', h1, h2, h3⟩, e => by
    simp only [shs, Option.map_eq_some_iff] at e
    obtain ⟨ds', e1, rfl⟩ := e
    subst h1
    exact Reps.cons h2 (shs_reps h3 e1)
  | .sl _ :: _, _, _, _, e => by simp [shs] at e
theorem AgRs.append : ∀ {as bs : List Ag} {vs us : List V}, AgRs T K F σ as vs → AgRs T K F σ bs us → AgRs T K F σ (as ++ bs) (vs ++ us)
  | [], _, vs, _, h, h' => by
    have e : vs = [] := h
    subst e
    exact h'
  | a :: r, _, _, _, ⟨v, r', h1, h2, h3⟩, h' => by
    subst h1
    exact ⟨v, _, rfl, h2, AgRs.append h3 h'⟩
theorem agRs_sh : ∀ {ds : List D} {vs : List V}, Reps T K F ds vs → AgRs T K F σ (ds.map Ag.sh) vs
  | [], vs, h => by simp only [Reps] at h; exact h
  | d :: ds, vs, h => by
    obtain ⟨v, r, rfl, h2, h3⟩ := h.uncons
    exact ⟨v, r, rfl, h2, agRs_sh h3⟩
theorem soundAA_bind {fa : EM} {ta : TE} (sa : SoundE T K P W fa ta) {k : D → AM} {r : RA} {Q' : VK} (h : bAA fa k env = some (r, env')) (A : Abs T K P F g env σ H)
    (hx : ∀ c fs, r = .ex c fs → ExE T K P W env' F g σ H c fs)
    (kk : ∀ x e1, k x e1 = some (r, env') → ∀ v F1 g1 H1, Grow F g H F1 g1 H1 → Abs T K P F1 g1 e1 σ H1 → Rep T K F1 x v → Q' v H1) : ta σ H Q' := by
  unfold bAA at h
  cases e : fa env with
  | none => rw [e] at h; cases h
  | some p =>
    obtain ⟨q, e1⟩ := p
    rw [e] at h
    cases q with
    | ok x => exact sa env _ _ e F g σ H Q' A fun v F1 g1 H1 G A1 R1 => kk x e1 h v F1 g1 H1 G A1 R1
    | ex c fs =>
      simp only [Option.some.injEq, Prod.mk.injEq] at h
      obtain ⟨rfl, rfl⟩ := h
      exact sa env _ _ e F g σ H Q' A (hx c fs rfl)
theorem soundMap_bind {fa : AM} {ta : TA} (sa : SoundA T K P W fa ta) {f : List Ag → List Ag} {r : RA} {Q' : List V → Hp → Prop} (h : mapA f fa env = some (r, env')) (A : Abs T K P F g env σ H)
    (hx : ∀ c fs, r = .ex c fs → ExE T K P W env' F g σ H c fs)
    (kk : ∀ x, r = .ok (f x) → ∀ vs F1 g1 H1, Grow F g H F1 g1 H1 → Abs T K P F1 g1 env' σ H1 → AgRs T K F1 σ x vs → Q' vs H1) : ta σ H Q' := by
  unfold mapA at h
  cases e : fa env with
  | none => rw [e] at h; cases h
  | some p =>
    obtain ⟨q, e1⟩ := p
    rw [e] at h
    cases q with
    | ok x =>
      simp only [Option.some.injEq, Prod.mk.injEq] at h
      obtain ⟨rfl, rfl⟩ := h
      exact sa env _ _ e F g σ H Q' A fun v F1 g1 H1 G A1 R1 => kk x rfl v F1 g1 H1 G A1 R1
    | ex c fs =>
      simp only [Option.some.injEq, Prod.mk.injEq] at h
      obtain ⟨rfl, rfl⟩ := h
      exact sa env _ _ e F g σ H Q' A (hx c fs rfl)
theorem da_nil : DA T X P W [] aNil := by
  refine ⟨_, pa_nil, fun env o env' h F g σ H Q A post => ?_⟩
  unfold aNil at h
  simp only [Option.some.injEq, Prod.mk.injEq] at h
  obtain ⟨rfl, rfl⟩ := h
  exact post [] F g H (Grow.refl _ _ _) A rfl
variable {e : Expr} {es : List Expr} {fe : EM} {fr : AM} {pos : Pos}
theorem da_cons (he : DE T X P W e fe) (hr : DA T X P W es fr) (hs : starEach (e :: es) X.env = (false, eval e X.env) :: starEach es X.env) : DA T X P W (e :: es) (aCons fe fr) := by
  obtain ⟨te, pe, se⟩ := he.ex
  obtain ⟨tr, pr, sr⟩ := hr.ex
  refine ⟨_, pa_cons pe pr hs, fun env o env' h F g σ H Q A post => ?_⟩
  refine soundAA_bind se h A post.exx fun x e1 h1 v F1 g1 H1 G1 A1 R1 => ?_
  refine soundMap_bind sr h1 A1 (post.grow G1).exx fun xs hx vs F2 g2 H2 G2 A2 R2 => ?_
  subst hx
  exact post (v :: vs) F2 g2 H2 (G1.trans G2) A2 ⟨v, vs, rfl, Rep.mono G2.sub _ _ R1, R2⟩
theorem items_at {d : D} {xs : List D} {v : V} (s : Same F H) (h : itemsOf d = some xs) (r : Rep T K F d v) : ∃ p vs, v = V.ref p ∧ (SqT K H p vs ∨ SqL K H p vs) ∧ Reps T K F xs vs := by
  cases d <;> simp only [itemsOf, Option.some.injEq, reduceCtorEq] at h
  case lst ys =>
    subst h
    simp only [Rep] at r
    obtain ⟨a, vs, rfl, h1, h2⟩ := r
    exact ⟨a, vs, rfl, .inr (SqL.of (s _ _ h1)), h2⟩
  case tup ys =>
    subst h
    simp only [Rep] at r
    obtain ⟨a, vs, rfl, h1, h2⟩ := r
    exact ⟨a, vs, rfl, .inl (same_sqT s h1.sq), h2⟩
theorem sound_star {te : TE} {t : TA} (se : SoundE T K P W fe te) (sr : SoundA T K P W fr t) : SoundA T K P W (aStar fe fr) (StX.tStar K te t) := by
  intro env o env' h F g σ H Q A post
  refine soundAA_bind se h A post.exx fun x e1 h1 v F1 g1 H1 G1 A1 R1 => ?_
  cases e : itemsOf x with
  | none => rw [e] at h1; cases h1
  | some xs =>
    rw [e] at h1
    obtain ⟨p, vs, rfl, hp, hr⟩ := items_at A1.sub e R1
    refine ⟨p, vs, rfl, hp, ?_⟩
    refine soundMap_bind sr h1 A1 (post.grow G1).exx fun ys hx us F2 g2 H2 G2 A2 R2 => ?_
    subst hx
    exact post _ F2 g2 H2 (G1.trans G2) A2 (AgRs.append (agRs_sh (Reps.mono G2.sub _ _ hr)) R2)
theorem soundL_bind {fa : AM} {ta : TA} (sa : SoundA T K P W fa ta) {k : List D → EM} {r : R} {Q' : List V → Hp → Prop} (h : bL fa k env = some (r, env')) (A : Abs T K P F g env σ H)
    (hx : ∀ c fs, r = .ex c fs → ExE T K P W env' F g σ H c fs)
    (kk : ∀ x e1, k x e1 = some (r, env') → ∀ vs F1 g1 H1, Grow F g H F1 g1 H1 → Abs T K P F1 g1 e1 σ H1 → Reps T K F1 x vs → Q' vs H1) : ta σ H Q' := by
  refine soundA_bind sa h A hx fun as e1 h1 vs F1 g1 H1 G1 A1 R1 => ?_
  cases e : shs as with
  | none => rw [e] at h1; cases h1
  | some ds =>
    rw [e] at h1
    exact kk ds e1 h1 vs F1 g1 H1 G1 A1 (shs_reps R1 e)
theorem da_star {p : Pos} (he : DE T X P W e fe) (hr : DA T X P W es fr) (hs : starEach (.Starred e p :: es) X.env = (true, eval e X.env) :: starEach es X.env) : DA T X P W (.Starred e p :: es) (aStar fe fr) := by
  obtain ⟨te, pe, se⟩ := he.ex
  obtain ⟨tr, pr, sr⟩ := hr.ex
  exact ⟨_, StX.pa_star pe pr hs, sound_star se sr⟩
/-! ### displays -/
def dTup (fa : AM) : EM := bL fa fun ds => if ds.length ≤ 16777216 then dC (.tup ds) else lift none
def dLst (fa : AM) : EM := bL fa fun ds => if ds.length ≤ 16777216 then dC (.lst ds) else lift none
theorem rep_newT {ds : List D} {vs : List V} {p : Addr} (s : Same F H) (hp : H p = none) (h : Reps T K F ds vs) : Rep T K (upd F p (.tup vs)) (.tup ds) (.ref p) := by
  simp only [Rep]
  exact ⟨p, vs, rfl, .inl upd_same, Reps.mono ((New.one hp).up s) _ _ h⟩
theorem rep_newL {ds : List D} {vs : List V} {p : Addr} (s : Same F H) (hp : H p = none) (h : Reps T K F ds vs) : Rep T K (upd F p (.lst vs)) (.lst ds) (.ref p) := by
  simp only [Rep]
  exact ⟨p, vs, rfl, upd_same, Reps.mono ((New.one hp).up s) _ _ h⟩
theorem de_tup {k} {fa : AM} (h : DA T X P W es fa) : DE T X P W (.Tuple es k pos) (dTup fa) := by
  obtain ⟨ta, pa, sa⟩ := h.ex
  refine ⟨_, pe_tup pa, fun env o env' h F g σ H Q A post => ?_⟩
  refine soundL_bind sa h A post.exx fun ds e1 h1 vs F1 g1 H1 G1 A1 R1 => ?_
  split at h1
  · rename_i l
    obtain ⟨rfl, rfl⟩ := dC_eq h1
    refine ⟨by rw [← R1.length, lim_eq]; exact l, fun p hp => ?_⟩
    exact post _ _ g1 _ (G1.trans (grow_laid A1.sub hp)) (A1.laid hp) (rep_newT A1.sub hp R1)
  · cases h1
theorem de_lst {fa : AM} (h : DA T X P W es fa) : DE T X P W (.List es pos) (dLst fa) := by
  obtain ⟨ta, pa, sa⟩ := h.ex
  refine ⟨_, pe_lst pa, fun env o env' h F g σ H Q A post => ?_⟩
  refine soundL_bind sa h A post.exx fun ds e1 h1 vs F1 g1 H1 G1 A1 R1 => ?_
  split at h1
  · rename_i l
    obtain ⟨rfl, rfl⟩ := dC_eq h1
    refine ⟨by rw [← R1.length, lim_eq]; exact l, fun p hp => ?_⟩
    exact post _ _ g1 _ (G1.trans (grow_laid A1.sub hp)) (A1.laid hp) (rep_newL A1.sub hp R1)
  · cases h1
/-- a new list that is owned -/
theorem do_lst {fa : AM} (h : DA T X P W es fa) : DO T X P W (.List es pos) (bL fa fun ds => if ds.length ≤ 16777216 then dC (.lst ds) else lift none) := by
  obtain ⟨ta, pa, sa⟩ := h.ex
  refine ⟨_, pe_lst pa, fun env o env' h F g σ H Q A post => ?_⟩
  refine soundL_bind sa h A (fun c fs e => by subst e; exact post) fun ds e1 h1 vs F1 g1 H1 G1 A1 R1 => ?_
  split at h1
  · rename_i l
    obtain ⟨rfl, rfl⟩ := dC_eq h1
    refine ⟨by rw [← R1.length, lim_eq]; exact l, fun p hp => ?_⟩
    have fp : F1 p = none := A1.sub.free hp
    refine post _ [p] F1 g1 _ (G1.trans ⟨Same.refl _, fun a u _ e => by rw [upd_ne (ne_of_none e hp)]; exact e, fun _ _ _ _ h => h, fun i a h => .inl ⟨i, h⟩⟩) (A1.beside hp) ?_ ?_ ?_
    · simp only [RepO]
      exact ⟨p, vs, rfl, rfl, fp, upd_same, R1⟩
    · intro i x hx hi
      obtain rfl : x = p := by simpa using hx
      obtain ⟨_, u, e⟩ := A1.inn i _ hi
      rw [hp] at e; cases e
    · intro x hx
      obtain rfl : x = p := by simpa using hx
      exact G1.back (.inr hp)
  · cases h1
/-! ### subscripts -/
def ixD (n : Nat) (i : Int) : Option Nat := if 0 ≤ i then (if i < n then some i.toNat else none) else if -(n : Int) ≤ i then some (i + n).toNat else none
def atD {α : Type} (xs : List α) (i : Int) : Option α := match ixD xs.length i with
  | some j => xs[j]?
  | none => none
theorem atD_eq {α : Type} (xs : List α) (i : Int) : atD xs i = atI xs i := by
  unfold atD atI
  show (match ixN xs.length i with | some j => xs[j]? | none => none) = _
  cases ixN xs.length i <;> rfl
def oIx (x y : D) : Option D := match x, y with
  | .lst xs, .int i => atD xs i
  | .tup xs, .int i => atD xs i
  | .str xs, .int i => (atD xs i).map fun c => .str [c]
  | _, _ => none
theorem atI_reps {ds : List D} {vs : List V} {i : Int} {d : D} (h : Reps T K F ds vs) (e : atD ds i = some d) : ∃ v, atI vs i = some v ∧ Rep T K F d v := by
  rw [atD_eq] at e
  unfold atI at e ⊢
  rw [h.length] at e
  cases q : ixN vs.length i with
  | none => rw [q] at e; cases e
  | some j =>
    rw [q] at e
    exact h.get e
theorem s_ix : OpS T K (rIx K) oIx := by
  intro x y z e F H vx vy Q s rx ry q
  unfold oIx at e
  split at e
  · rename_i xs i
    simp only [Rep] at rx ry
    obtain ⟨a, vs, rfl, h1, h2⟩ := rx
    obtain ⟨v, h3, h4⟩ := atI_reps h2 e
    exact .inl ⟨a, vs, i, v, rfl, ry, SqL.of (s _ _ h1), h3, q _ F H .refl h4⟩
  · rename_i xs i
    simp only [Rep] at rx ry
    obtain ⟨a, vs, rfl, h1, h2⟩ := rx
    obtain ⟨v, h3, h4⟩ := atI_reps h2 e
    exact .inr (.inl ⟨a, vs, i, v, rfl, ry, same_sqT s h1.sq, h3, q _ F H .refl h4⟩)
  · rename_i xs i
    simp only [Rep] at rx ry
    obtain ⟨rfl, hb⟩ := rx
    rw [Option.map_eq_some_iff] at e
    obtain ⟨c, h3, rfl⟩ := e
    refine .inr (.inr ⟨_, i, c, rfl, ry, by rw [str_length, lim_eq]; exact strB_len hb, ?_, ?_⟩)
    · show atI (xs.toArray.toList) i = some c
      rw [← atD_eq, List.toList_toArray]; exact h3
    · refine q _ F H .refl (rep_s (x := [c]) ?_)
      have hc : c ∈ xs := by
        unfold atD at h3
        split at h3
        · exact List.mem_of_getElem? h3
        · cases h3
      unfold strB at hb ⊢
      have h1 := (Bool.and_eq_true_iff.mp hb).1
      have h2 := List.all_eq_true.mp h1 c hc
      simpa using h2
  · cases e
variable {a b : Expr} {fa fb : EM}
theorem de_ix (ha : DE T X P W a fa) (hb : DE T X P W b fb) (hs : PlainIx b) : DE T X P W (.Subscript a b pos) (dOp oIx fa fb) := by
  obtain ⟨ta, pa, sa⟩ := ha.ex
  obtain ⟨tb, pb, sb⟩ := hb.ex
  exact ⟨_, pe_ix ix_seq pa pb hs, sound_op s_ix sa sb⟩
/-! ### calls of built-ins -/
def dCall (f : List D → Option D) (fa : AM) : EM := bL fa fun ds => lift (f ds)
theorem sound_callB {r : List V → Hp → VK → Prop} {f : List D → Option D} (hs : CallS T K r f) {fa : AM} {ta : TA} (sa : SoundA T K P W fa ta) : SoundE T K P W (dCall f fa) (tCB r ta) := by
  intro env o env' h F g σ H Q A post
  refine soundL_bind sa h A post.exx fun ds e1 h1 vs F1 g1 H1 G1 A1 R1 => ?_
  obtain ⟨z, hz, rfl, rfl⟩ := lift_eq h1
  refine hs ds z hz F1 H1 vs Q A1.sub R1 fun v F3 H3 n R3 => ?_
  exact post v F3 g1 H3 (G1.trans (n.grow A1)) (n.abs A1) R3
theorem de_callB {id : String} {x : Str} {p : Pos} {r : List V → Hp → VK → Prop} {f : List D → Option D} {fa : AM} (hc : CallR X (.builtin id) r) (hs : CallS T X.K r f) (hg : Gl X x) (hm : X.mg x = none) (hv : bootBuiltins x = some (.builtin id)) (ha : DA T X P W (e :: es) fa)
    (hn : x ≠ "__name__") (hdb : (x == ("__debug__" : Str)) = false) (he : starEach (e :: es) X.env = (false, eval e X.env) :: starEach es X.env) (hpl : (backTo pos (starEach es X.env)).any (·.1) = false) : DE T X P W (.Call (.Name x p) (e :: es) [] pos) (dCall f fa) := by
  obtain ⟨ta, pa, sa⟩ := ha.ex
  exact ⟨_, pe_callB hc hg hm hv pa hn hdb he hpl, sound_callB hs sa⟩
theorem de_callTy {id : String} {x : Str} {p : Pos} {r : List V → Hp → VK → Prop} {f : List D → Option D} {fa : AM} (hc : CallR X (.type id) r) (hs : CallS T X.K r f) (hg : Gl X x) (hm : X.mg x = none) (hv : bootBuiltins x = some (.type id)) (ha : DA T X P W (e :: es) fa)
    (hn : x ≠ "__name__") (hdb : (x == ("__debug__" : Str)) = false) (he : starEach (e :: es) X.env = (false, eval e X.env) :: starEach es X.env) (hpl : (backTo pos (starEach es X.env)).any (·.1) = false) : DE T X P W (.Call (.Name x p) (e :: es) [] pos) (dCall f fa) := by
  obtain ⟨ta, pa, sa⟩ := ha.ex
  exact ⟨_, pe_callTy hc hg hm hv pa hn hdb he hpl, sound_callB hs sa⟩
/-- len -/
def fLen : List D → Option D
  | [.str x] => some (.int x.length)
  | [.lst xs] => some (.int xs.length)
  | [.tup xs] => some (.int xs.length)
  | _ => none
theorem reps1 {ds : List D} {d : D} {vs : List V} (h : Reps T K F [d] vs) : ∃ v, vs = [v] ∧ Rep T K F d v := by
  obtain ⟨v, r, rfl, h2, h3⟩ := h.uncons
  simp only [Reps] at h3
  subst h3
  exact ⟨v, rfl, h2⟩
theorem s_len : CallS T K (fun xs H Q => ∃ x n, xs = [x] ∧ LenV K x H n ∧ Q (.int n) H) fLen := by
  intro xs z e F H vs Q s rx q
  unfold fLen at e
  split at e
  · rename_i x
    cases e
    obtain ⟨v, rfl, r⟩ := reps1 (ds := []) rx
    simp only [Rep] at r
    refine ⟨v, x.length, rfl, ?_, q _ F H .refl rep_int⟩
    rw [r.1]
    exact ⟨by rw [str_length, lim_eq]; exact strB_len r.2, (str_length x).symm⟩
  · rename_i ys
    cases e
    obtain ⟨v, rfl, r⟩ := reps1 (ds := []) rx
    simp only [Rep] at r
    obtain ⟨a, vs, rfl, h1, h2⟩ := r
    exact ⟨.ref a, ys.length, rfl, Or.inl ⟨vs, SqL.of (s _ _ h1), h2.length⟩, q _ F H .refl rep_int⟩
  · rename_i ys
    cases e
    obtain ⟨v, rfl, r⟩ := reps1 (ds := []) rx
    simp only [Rep] at r
    obtain ⟨a, vs, rfl, h1, h2⟩ := r
    exact ⟨.ref a, ys.length, rfl, Or.inr ⟨vs, same_sqT s h1.sq, h2.length⟩, q _ F H .refl rep_int⟩
  · cases e
end
end DS
namespace DS
open PySem PySem.Spec L2
/-! ### what a def promises -/
section
variable (T : Tb) (K : PySem.W.Frag)
/-- an argument: plain data; or a parameter's owned thing -/
def ArgO (F H : Hp) (d : D) (v : V) (fp : List Addr) : Prop := match d with
  | .pin c => RepO T K F H (.own c) v fp
  | d => d.sh = true ∧ fp = [] ∧ Rep T K F d v
structure ArgsAt (F H : Hp) (ds : List D) (vs : List V) (g : Nat → List Addr) : Prop where
  len : ds.length = vs.length
  at_ : ∀ (i : Nat) (d : D), ds[i]? = some d → ∃ v, vs[i]? = some v ∧ ArgO T K F H d v (g i)
  dis : ∀ i j x, x ∈ g i → x ∈ g j → i = j
  out : ∀ i : Nat, ds[i]? = none → g i = []
/-- the owned things behind the call -/
def putPins : List D → List D → List D
  | [], _ => []
  | .pin _ :: r, c :: cs => .pin c :: putPins r cs
  | .pin c :: r, [] => .pin c :: putPins r []
  | d :: r, cs => d :: putPins r cs
def PostC (ds : List D) (outs : List D) (F : Hp) (g : Nat → List Addr) (H : Hp) (vs : List V) (Q : VK) (E : XK) : R → Prop
  | .ok d => ∀ v fp F' g' H', Grow F g H F' g' H' → Same F' H' → ArgsAt T K F' H' (putPins ds outs) vs g' → RepO T K F' H' d v fp → (∀ i, ∀ x ∈ fp, x ∉ g' i) → (∀ x ∈ fp, (∃ j, x ∈ g j) ∨ H x = none) → Q v H'
  | .ex c fs => ∀ cls dd F' g' H', Grow F g H F' g' H' → Same F' H' → ArgsAt T K F' H' (putPins ds outs) vs g' → RepX T K F' H' c fs cls dd → E cls dd H'
def spG (n : Nat) (m : List D → Option (R × List D)) : Sp := fun vs H Q E => ∃ ds F g r outs, m ds = some (r, outs) ∧ ds.length = n ∧ Same F H ∧ ArgsAt T K F H ds vs g ∧ PostC T K ds outs F g H vs Q E r
end
theorem spG_len {T : Tb} {K : PySem.W.Frag} {n : Nat} {m : List D → Option (R × List D)} {vs : List V} {H : Hp} {Q : VK} {E : XK} (h : spG T K n m vs H Q E) : vs.length = n := by
  obtain ⟨ds, F, g, r, outs, _, h2, _, h4, _⟩ := h
  rw [← h4.len, h2]
/-! ### a body -/
def startD (n : Nat) (ds : List D) : DEnv := ds.map some ++ List.replicate (n - ds.length) none
/-- the parameters' owned things at the end -/
def outsOf : List D → DEnv → Option (List D)
  | [], _ => some []
  | .pin _ :: ds, some (.pin c) :: env => (outsOf ds env).map (c :: ·)
  | .pin _ :: _, _ => none
  | _ :: ds, _ :: env => outsOf ds env
  | _ :: _, [] => none
def fin (ds : List D) : Option (Out × DEnv) → Option (R × List D)
  | some (.nx, env) => (outsOf ds env).map fun o => (.ok .non, o)
  | some (.rt d, env) => (outsOf ds env).map fun o => (.ok d, o)
  | some (.ex c fs, env) => (outsOf ds env).map fun o => (.ex c fs, o)
  | _ => none
/-- the def's function, by its body's -/
def runD (n : Nat) (f : SM) (ds : List D) : Option (R × List D) := fin ds (f (startD n ds))
section
variable {T : Tb} {K : PySem.W.Frag} {F F' H H' : Hp} {g : Nat → List Addr}
theorem argO_slot {P : Nat → Option V} {i : Nat} {d : D} {v : V} {fp : List Addr} (h : ArgO T K F H d v fp) (hp : ∀ c, d = .pin c → P i = some v) : SlotO T K P F H i d v fp := by
  cases d with
  | pin c => exact ⟨h, hp c rfl⟩
  | own c => exact absurd h.1 (by simp [D.sh])
  | _ => exact (slotO_sh rfl).mpr h.2
def pinP (ds : List D) (vs : List V) : Nat → Option V := fun i => match ds[i]? with
  | some (.pin _) => vs[i]?
  | _ => none
theorem start_abs {n : Nat} {ds : List D} {vs : List V} {N : List Str} (hn : N.length = n) (s : Same F H) (A : ArgsAt T K F H ds vs g) (hl : ds.length ≤ n) : Abs T K (pinP ds vs) F g (startD n ds) (L2.start N vs) H := by
  have l1 : (startD n ds).length = n := by simp [startD]; omega
  have l2 : (L2.start N vs).length = n := by unfold L2.start; rw [List.length_append, List.length_map, List.length_replicate, ← A.len, hn]; omega
  have key : ∀ (i : Nat) (d : D), (startD n ds)[i]? = some (some d) → ds[i]? = some d := fun i d e => by
    unfold startD at e
    by_cases hi : i < ds.length
    · rw [List.getElem?_append_left (by simpa using hi), List.getElem?_map] at e
      cases q : ds[i]? with
      | none => rw [q] at e; cases e
      | some c => rw [q] at e; simpa using e
    · rw [List.getElem?_append_right (by simpa using hi), List.getElem?_replicate] at e
      split at e <;> simp at e
  refine ⟨s, by rw [l1, l2], fun i d e => ?_, A.dis, fun i h => ?_⟩
  · have e1 := key i d e
    obtain ⟨v, h1, h2⟩ := A.at_ i d e1
    refine ⟨v, ?_, argO_slot h2 fun c ec => ?_⟩
    · unfold L2.start
      have hi : i < vs.length := (List.getElem?_eq_some_iff.mp h1).1
      rw [List.getElem?_append_left (by simpa using hi), List.getElem?_map, h1]; rfl
    · subst ec
      unfold pinP
      rw [e1]
      exact h1
  · refine A.out i ?_
    cases q : ds[i]? with
    | none => rfl
    | some d =>
      have hi : i < ds.length := (List.getElem?_eq_some_iff.mp q).1
      exfalso
      refine h d ?_
      unfold startD
      rw [List.getElem?_append_left (by simpa using hi), List.getElem?_map, q]; rfl
theorem outsOf_at : ∀ {ds : List D} {env : DEnv} {outs : List D}, outsOf ds env = some outs → ∀ (i : Nat) (d : D), (putPins ds outs)[i]? = some d → (∃ c, ds[i]? = some (.pin c) ∧ env[i]? = some (some d) ∧ ∃ c', d = .pin c') ∨ (ds[i]? = some d ∧ ∀ c, d ≠ .pin c)
  | [], env, outs, h, i, d, e => by simp [putPins] at e
  | .pin c :: ds, env, outs, h, i, d, e => by
    cases env with
    | nil => simp [outsOf] at h
    | cons x env =>
      cases x with
      | none => simp [outsOf] at h
      | some y =>
        cases y with
        | pin c' =>
          simp only [outsOf, Option.map_eq_some_iff] at h
          obtain ⟨o, h1, rfl⟩ := h
          cases i with
          | zero =>
            simp [putPins] at e
            subst e
            exact .inl ⟨c, rfl, rfl, c', rfl⟩
          | succ i => simpa using outsOf_at h1 i d (by simpa [putPins] using e)
        | _ => simp [outsOf] at h
  | .own c :: ds, env, outs, h, i, d, e => by
    cases env with
    | nil => simp [outsOf] at h
    | cons x env =>
      simp only [outsOf] at h
      cases i with
      | zero => simp [putPins] at e; subst e; exact .inr ⟨rfl, by simp⟩
      | succ i => simpa using outsOf_at h i d (by simpa [putPins] using e)
  | .non :: ds, env, outs, h, i, d, e => by
    cases env with
    | nil => simp [outsOf] at h
    | cons x env =>
      simp only [outsOf] at h
      cases i with
      | zero => simp [putPins] at e; subst e; exact .inr ⟨rfl, by simp⟩
      | succ i => simpa using outsOf_at h i d (by simpa [putPins] using e)
  | .bl _ :: ds, env, outs, h, i, d, e => by
    cases env with
    | nil => simp [outsOf] at h
    | cons x env =>
      simp only [outsOf] at h
      cases i with
      | zero => simp [putPins] at e; subst e; exact .inr ⟨rfl, by simp⟩
      | succ i => simpa using outsOf_at h i d (by simpa [putPins] using e)
  | .int _ :: ds, env, outs, h, i, d, e => by
    cases env with
    | nil => simp [outsOf] at h
    | cons x env =>
      simp only [outsOf] at h
      cases i with
      | zero => simp [putPins] at e; subst e; exact .inr ⟨rfl, by simp⟩
      | succ i => simpa using outsOf_at h i d (by simpa [putPins] using e)
  | .str _ :: ds, env, outs, h, i, d, e => by
    cases env with
    | nil => simp [outsOf] at h
    | cons x env =>
      simp only [outsOf] at h
      cases i with
      | zero => simp [putPins] at e; subst e; exact .inr ⟨rfl, by simp⟩
      | succ i => simpa using outsOf_at h i d (by simpa [putPins] using e)
  | .tup _ :: ds, env, outs, h, i, d, e => by
    cases env with
    | nil => simp [outsOf] at h
    | cons x env =>
      simp only [outsOf] at h
      cases i with
      | zero => simp [putPins] at e; subst e; exact .inr ⟨rfl, by simp⟩
      | succ i => simpa using outsOf_at h i d (by simpa [putPins] using e)
  | .lst _ :: ds, env, outs, h, i, d, e => by
    cases env with
    | nil => simp [outsOf] at h
    | cons x env =>
      simp only [outsOf] at h
      cases i with
      | zero => simp [putPins] at e; subst e; exact .inr ⟨rfl, by simp⟩
      | succ i => simpa using outsOf_at h i d (by simpa [putPins] using e)
  | .dic _ _ :: ds, env, outs, h, i, d, e => by
    cases env with
    | nil => simp [outsOf] at h
    | cons x env =>
      simp only [outsOf] at h
      cases i with
      | zero => simp [putPins] at e; subst e; exact .inr ⟨rfl, by simp⟩
      | succ i => simpa using outsOf_at h i d (by simpa [putPins] using e)
  | .ins _ _ :: ds, env, outs, h, i, d, e => by
    cases env with
    | nil => simp [outsOf] at h
    | cons x env =>
      simp only [outsOf] at h
      cases i with
      | zero => simp [putPins] at e; subst e; exact .inr ⟨rfl, by simp⟩
      | succ i => simpa using outsOf_at h i d (by simpa [putPins] using e)
theorem putPins_length : ∀ (ds outs : List D), (putPins ds outs).length = ds.length
  | [], _ => rfl
  | d :: ds, outs => by
    cases d <;> cases outs <;> simp [putPins, putPins_length ds]
/-- behind the body: the owned things as the caller's -/
theorem end_args {ds : List D} {vs : List V} {env' : DEnv} {outs : List D} {F1 H1 : Hp} {g1 : Nat → List Addr} {σ1 : L2.St} (A : ArgsAt T K F H ds vs g) (G : Grow F g H F1 g1 H1) (B : Abs T K (pinP ds vs) F1 g1 env' σ1 H1) (ho : outsOf ds env' = some outs) :
    ArgsAt T K F1 H1 (putPins ds outs) vs (fun i => match ds[i]? with | some (.pin _) => g1 i | _ => []) := by
  refine ⟨by rw [putPins_length]; exact A.len, fun i d e => ?_, fun i j x h1 h2 => ?_, fun i h => ?_⟩
  · rcases outsOf_at ho i d e with ⟨c, e1, e2, c', rfl⟩ | ⟨e1, hne⟩
    · obtain ⟨v, h1, h2, h3⟩ := B.at_ i _ e2
      refine ⟨v, ?_, ?_⟩
      · unfold pinP at h3
        rw [e1] at h3
        exact h3
      · rw [e1]; exact h2
    · obtain ⟨v, h1, h2⟩ := A.at_ i d e1
      refine ⟨v, h1, ?_⟩
      have fp : (match ds[i]? with | some (.pin _) => g1 i | _ => []) = ([] : List Addr) := by
        rw [e1]
        cases d <;> first | rfl | exact absurd rfl (hne _)
      rw [fp]
      cases d with
      | pin c => exact absurd rfl (hne _)
      | _ => exact ⟨h2.1, rfl, Rep.mono G.sub _ _ h2.2.2⟩
  · have z : ∀ i, x ∈ (match ds[i]? with | some (.pin _) => g1 i | _ => ([] : List Addr)) → x ∈ g1 i := fun i h => by
      split at h
      · exact h
      · cases h
    exact B.dis i j x (z i h1) (z j h2)
  · have : ds[i]? = none := by
      rw [List.getElem?_eq_none_iff] at h ⊢
      rw [putPins_length] at h; exact h
    rw [this]
theorem end_grow {ds : List D} {F1 H1 : Hp} {g1 : Nat → List Addr} (G : Grow F g H F1 g1 H1) : Grow F g H F1 (fun i => match ds[i]? with | some (.pin _) => g1 i | _ => []) H1 := by
  refine ⟨G.sub, G.keep, G.fr, fun i a h => ?_⟩
  have h' : a ∈ (match ds[i]? with | some (.pin _) => g1 i | _ => ([] : List Addr)) := h
  split at h'
  · exact G.new i a h'
  · cases h'
end
/-- THE DEF's RULE -/
theorem fn_ok {T : Tb} {P : Program} {w : World} {K : PySem.W.Frag} {mg : Str → Option Value} {base : Heap} {name qual : Str} {params : Arguments} {body : List Stmt} {scope : Scope} {dvs : List V} {kws : List (Str × V)} {f : Addr} {fd : FuncData} {k : Nat} {N ps : List Str} {sm : SM}
    (FD : FunD K name qual params body scope dvs kws f fd) (S : FnScope N ps scope)
    (hb : ∀ (cdv : Value) (A : Around) (outer : List Env) (s : Shared) (H : Hp) (E : XK) (PP : Nat → Option V), Room k (A.deeper (PyProof.Rows.envOfC qual scope s.heap.objs.size f cdv)) →
      DSs T (cxOf (L2.CX P w) P w K mg base N qual scope f cdv A outer s H E) PP (fun cls d _ H => E cls d H) body sm) :
    FnOk P w K mg base (L2.CX P w) (k + 1) f fd ps (spG T K ps.length (runD N.length sm)) := by
  obtain ⟨oc, od, dV, kV, doc, pm, an, cdv, ct, osl, rfl, lk, hcd, _, _⟩ := FD.ex
  refine fn_of lk hcd S (fun vs H Q E h => spG_len h) fun A outer s H vs Q E hr hsp => ?_
  obtain ⟨ds, F, g, r, outs, hm, hl, hs, hA, post⟩ := hsp
  obtain ⟨t, ht, st⟩ := (hb cdv A outer s H E (pinP ds vs) hr).ex
  refine ⟨t, ht, ?_⟩
  unfold runD fin at hm
  have hpl : ps.length ≤ N.length := by have := congrArg List.length S.pre; rw [List.length_take] at this; omega
  have A0 : Abs T K (pinP ds vs) F g (startD N.length ds) (L2.start N vs) H := start_abs rfl hs hA (by omega)
  cases e : sm (startD N.length ds) with
  | none => rw [e] at hm; cases hm
  | some p =>
    obtain ⟨o, env'⟩ := p
    rw [e] at hm
    refine st _ _ _ e F g _ H _ A0 ?_
    cases o with
    | nx =>
      simp only [Option.map_eq_some_iff] at hm
      obtain ⟨outs', ho, hq⟩ := hm
      obtain ⟨rfl, rfl⟩ := Prod.mk.inj hq
      intro F1 g1 σ1 H1 G1 B1
      refine post V.non [] F1 _ H1 (end_grow G1) B1.sub (end_args hA G1 B1 ho) (by simp [RepO, Rep]) (fun _ _ h => by cases h) fun _ h => by cases h
    | rt d =>
      simp only [Option.map_eq_some_iff] at hm
      obtain ⟨outs', ho, hq⟩ := hm
      obtain ⟨rfl, rfl⟩ := Prod.mk.inj hq
      intro v fp F1 g1 σ1 H1 G1 B1 R1 n1 m1
      refine post v fp F1 _ H1 (end_grow G1) B1.sub (end_args hA G1 B1 ho) R1 (fun i x hx hi => ?_) m1
      have hi' : x ∈ (match ds[i]? with | some (.pin _) => g1 i | _ => ([] : List Addr)) := hi
      split at hi'
      · exact n1 i x hx hi'
      · cases hi'
    | ex c fs =>
      simp only [Option.map_eq_some_iff] at hm
      obtain ⟨outs', ho, hq⟩ := hm
      obtain ⟨rfl, rfl⟩ := Prod.mk.inj hq
      intro σ1 cls dd F1 g1 H1 G1 B1 R1
      exact post cls dd F1 _ H1 (end_grow G1) B1.sub (end_args hA G1 B1 ho) R1
    | bk => cases hm
    | ct => cases hm
/-! ### calls -/
/-- all arguments plain -/
def callP (m : List D → Option (R × List D)) (ds : List D) : EM := fun env => match m ds with
  | some (.ok d, []) => if d.sh = true then some (.ok d, env) else none
  | some (.ex c fs, []) => some (.ex c fs, env)
  | _ => none
section
variable {T : Tb} {X : Cx} {P : Nat → Option V} {W : WX} {K : PySem.W.Frag} {F F' F1 H H' H1 : Hp} {g g1 : Nat → List Addr} {env env' : DEnv} {σ : L2.St}
theorem args_plain {ds : List D} {vs : List V} (h : Reps T K F ds vs) : ArgsAt T K F H ds vs (fun _ => []) := by
  refine ⟨h.length, fun i d e => ?_, fun _ _ _ h _ => (by cases h), fun _ _ => rfl⟩
  obtain ⟨v, h1, h2⟩ := h.get e
  refine ⟨v, h1, ?_⟩
  cases d with
  | pin c => simp only [Rep] at h2
  | own c => simp only [Rep] at h2
  | _ => exact ⟨rfl, rfl, h2⟩
/-- a callee without owned arguments leaves the caller's things -/
theorem plain_abs (A : Abs T K P F g env σ H) (G : Grow F (fun _ => []) H F' (fun _ => []) H') (s : Same F' H') : Abs T K P F' g env σ H' ∧ Grow F g H F' g H' := by
  have nin : ∀ a, ∀ i : Nat, a ∉ (fun _ => ([] : List Addr)) i := fun a i h => by cases h
  have kp : ∀ a o, H a = some o → H' a = some o := fun a o e => G.keep a o (nin a) e
  refine ⟨⟨s, A.len, fun i d e => ?_, A.dis, A.out⟩, ⟨G.sub, fun a o _ e => kp a o e, fun a o _ e hf => G.fr a o (nin a) e hf, fun i a h => .inl ⟨i, h⟩⟩⟩
  obtain ⟨v, h1, h2⟩ := A.at_ i d e
  refine ⟨v, h1, slotO_keep G.sub h2 (fun a _ o q => kp a o q) fun a ha => ?_⟩
  obtain ⟨h3, o, h4⟩ := A.inn i a ha
  exact G.fresh a o (nin a) h4 h3 (A.innT ha h4)
theorem pinless {ds : List D} {vs : List V} (h : Reps T K F ds vs) : ∀ outs, putPins ds outs = ds := by
  induction ds generalizing vs with
  | nil => intro _; rfl
  | cons d ds ih =>
    intro outs
    obtain ⟨v, r, rfl, h2, h3⟩ := h.uncons
    have := ih h3 outs
    cases d <;> first | (simp only [Rep] at h2; done) | (simp only [putPins]; rw [this])
theorem args_g {ds : List D} {vs us : List V} {g' : Nat → List Addr} (h : Reps T K F ds us) (A : ArgsAt T K F' H' ds vs g') : g' = fun _ => [] := by
  funext i
  cases e : ds[i]? with
  | none => exact A.out i e
  | some d =>
    obtain ⟨v, _, h2⟩ := A.at_ i d e
    obtain ⟨u, _, h4⟩ := h.get e
    cases d with
    | pin c => simp only [Rep] at h4
    | own c => simp only [Rep] at h4
    | _ => exact h2.2.1
theorem sound_callP {n : Nat} {m : List D → Option (R × List D)} {ds : List D} {vs : List V} {r : R} {Q : VK} (hn : ds.length = n) (h : callP m ds env = some (r, env')) (A : Abs T K P F g env σ H) (R0 : Reps T K F ds vs) (post : PostE T K P W env' F g σ H Q r) : spG T K n m vs H Q (WE W σ) := by
  unfold callP at h
  split at h
  · rename_i d em
    split at h
    · rename_i hd
      simp only [Option.some.injEq, Prod.mk.injEq] at h
      obtain ⟨rfl, rfl⟩ := h
      refine ⟨ds, F, fun _ => [], .ok d, [], em, hn, A.sub, args_plain R0, fun v fp F' g' H' G s A' R' n' m' => ?_⟩
      rw [pinless R0] at A'
      have eg := args_g R0 A'
      subst eg
      obtain ⟨B, G'⟩ := plain_abs A G s
      exact post v F' g H' G' B ((repO_sh hd).mp R').2
    · cases h
  · rename_i c fs em
    simp only [Option.some.injEq, Prod.mk.injEq] at h
    obtain ⟨rfl, rfl⟩ := h
    refine ⟨ds, F, fun _ => [], .ex c fs, [], em, hn, A.sub, args_plain R0, fun cls dd F' g' H' G s A' R' => ?_⟩
    rw [pinless R0] at A'
    have eg := args_g R0 A'
    subst eg
    obtain ⟨B, G'⟩ := plain_abs A G s
    exact post cls dd F' g H' G' B R'
  · cases h
end
end DS
namespace DS
open PySem PySem.Spec L2
/-- what f answers, as a reading by itself -/
def tOf (T : Tb) (K : PySem.W.Frag) (P : Nat → Option V) (W : WX) (f : EM) : TE := fun σ H Q => ∃ env r env' F g, f env = some (r, env') ∧ Abs T K P F g env σ H ∧ PostE T K P W env' F g σ H Q r
theorem sound_tOf {T : Tb} {K : PySem.W.Frag} {P : Nat → Option V} {W : WX} (f : EM) : SoundE T K P W f (tOf T K P W f) := fun env r env' h F g σ H Q A post => ⟨env, r, env', F, g, h, A, post⟩
theorem DE.pe {T : Tb} {X : Cx} {P : Nat → Option V} {W : WX} {e : Expr} {f : EM} (h : DE T X P W e f) : PE X e (tOf T X.K P W f) := by
  obtain ⟨t, p, s⟩ := h.ex
  refine ⟨fun pins st σ H Q I q => ?_⟩
  obtain ⟨env, r, env', F, g, e1, A, post⟩ := q
  exact p.run pins st σ H Q I (s env r env' e1 F g σ H Q A post)
def tOfB (T : Tb) (K : PySem.W.Frag) (P : Nat → Option V) (W : WX) (f : BM) : TT := fun σ H Q => ∃ env r env' F g, f env = some (r, env') ∧ Abs T K P F g env σ H ∧ PostB T K P W env' F g σ H Q r
theorem sound_tOfB {T : Tb} {K : PySem.W.Frag} {P : Nat → Option V} {W : WX} (f : BM) : SoundB T K P W f (tOfB T K P W f) := fun env r env' h F g σ H Q A post => ⟨env, r, env', F, g, h, A, post⟩
theorem DT.pt {T : Tb} {X : Cx} {P : Nat → Option V} {W : WX} {e : Expr} {f : BM} (h : DT T X P W e f) : PT X e (tOfB T X.K P W f) := by
  obtain ⟨t, p, s⟩ := h.ex
  refine ⟨fun pins st σ H Q I q => ?_⟩
  obtain ⟨env, r, env', F, g, e1, A, post⟩ := q
  exact p.run pins st σ H Q I (s env r env' e1 F g σ H Q A post)
/-! ### calls of defs -/
def callN (n : Nat) (m : List D → Option (R × List D)) (dds : List D) (ds : List D) : EM := if (ds ++ dds).length = n then callP m (ds ++ dds) else lift none
/-- the first argument is the owned thing in slot j -/
def callS (n : Nat) (m : List D → Option (R × List D)) (j : Nat) (ds : List D) : EM := fun env => if ds.length + 1 = n then (match env[j]? with
  | some (some (.own c)) => (match m (.pin c :: ds) with
    | some (.ok d, [c']) => if d.sh = true then some (.ok d, env.set j (some (.own c'))) else none
    | some (.ex x fs, [c']) => some (.ex x fs, env.set j (some (.own c')))
    | _ => none)
  | some (some (.pin c)) => (match m (.pin c :: ds) with
    | some (.ok d, [c']) => if d.sh = true then some (.ok d, env.set j (some (.pin c'))) else none
    | some (.ex x fs, [c']) => some (.ex x fs, env.set j (some (.pin c')))
    | _ => none)
  | _ => none) else none
def dCallS (n : Nat) (m : List D → Option (R × List D)) (dds : List D) (j : Nat) (fr : AM) : EM := bL fr fun ds => callS n m j (ds ++ dds)
def needS (j : Nat) (f : EM) : EM := fun env => match env[j]? with
  | some (some _) => f env
  | _ => none
def dCallN (n : Nat) (m : List D → Option (R × List D)) (dds : List D) (fa : AM) : EM := bL fa (callN n m dds)
section
variable {T : Tb} {X : Cx} {P : Nat → Option V} {W : WX} {K : PySem.W.Frag} {F F' F1 H H' H1 : Hp} {g g1 : Nat → List Addr} {env env' : DEnv} {σ : L2.St}
/-- an owned slot handed to a callee and back -/
theorem slot_back {j : Nat} {w w' : D → D} {c c' : D} {v : V} {vs : List V} {ds : List D} {g' : Nat → List Addr} (A : Abs T K P F g env σ H) (hv : σ[j]? = some (some v)) (hj : j < env.length)
    (hw : ∀ F H v fp, SlotO T K P F H j (w c) v fp → SlotO T K P F H j (w c) v fp) (hs : SlotO T K P F H j (w c) v (g j)) (ho : ∀ F' H' fp, RepO T K F' H' (.own c') v fp → SlotO T K P F' H' j (w c') v fp)
    (G : Grow F (fun i => if i = 0 then g j else []) H F' g' H') (s : Same F' H') (A' : ArgsAt T K F' H' (.pin c' :: ds) (v :: vs) g') (hd : ∀ d ∈ ds, d.sh = true) :
    Abs T K P F' (fun i => if i = j then g' 0 else g i) (env.set j (some (w c'))) σ H' ∧ Grow F g H F' (fun i => if i = j then g' 0 else g i) H' := by
  have far : ∀ i a, i ≠ j → a ∈ g i → ∀ k : Nat, a ∉ (if k = 0 then g j else []) := fun i a ne ha k hk => by
    split at hk
    · exact ne (A.dis i j a ha hk)
    · cases hk
  have nin : ∀ a, (∀ i, a ∉ g i) → ∀ k : Nat, a ∉ (if k = 0 then g j else []) := fun a h k hk => by
    split at hk
    · exact h j hk
    · cases hk
  have out0 : ∀ i x, i ≠ j → x ∈ g i → x ∉ g' 0 := fun i x ne hx h0 => by
    rcases G.new 0 x h0 with ⟨k, hk⟩ | hn
    · exact far i x ne hx k hk
    · obtain ⟨_, o, e⟩ := A.inn i x hx
      rw [hn] at e; cases e
  obtain ⟨v0, h0, R0⟩ := A'.at_ 0 (.pin c') rfl
  simp only [List.getElem?_cons_zero, Option.some.injEq] at h0
  subst h0
  refine ⟨⟨s, by simpa using A.len, fun i d e => ?_, fun i k x h1 h2 => ?_, fun i h => ?_⟩, ⟨G.sub, fun a o h e => G.keep a o (nin a h) e, fun a o h e q => G.fr a o (nin a h) e q, fun i a h => ?_⟩⟩
  · by_cases q : j = i
    · subst q
      rw [List.getElem?_set_self hj] at e
      cases e
      refine ⟨v, hv, ?_⟩
      simp only [if_pos]
      exact ho F' H' _ R0
    · rw [List.getElem?_set_ne q] at e
      obtain ⟨u, h1, h2⟩ := A.at_ i d e
      refine ⟨u, h1, ?_⟩
      simp only [if_neg (Ne.symm q)]
      refine slotO_keep G.sub h2 (fun a ha o e => G.keep a o (far i a (Ne.symm q) ha) e) fun a ha => ?_
      obtain ⟨h3, o, h4⟩ := A.inn i a ha
      exact G.fresh a o (far i a (Ne.symm q) ha) h4 h3 (A.innT ha h4)
  · by_cases qi : i = j
    · by_cases qk : k = j
      · rw [qi, qk]
      · simp only [if_pos qi, if_neg qk] at h1 h2
        exact absurd h1 (out0 k x qk h2)
    · by_cases qk : k = j
      · simp only [if_neg qi, if_pos qk] at h1 h2
        exact absurd h2 (out0 i x qi h1)
      · simp only [if_neg qi, if_neg qk] at h1 h2
        exact A.dis i k x h1 h2
  · by_cases q : j = i
    · subst q
      exact absurd (List.getElem?_set_self hj) (h _)
    · simp only [if_neg (Ne.symm q)]
      refine A.out i fun d e => h d ?_
      rw [List.getElem?_set_ne q]; exact e
  · by_cases q : i = j
    · simp only [if_pos q] at h
      rcases G.new 0 a h with ⟨k, hk⟩ | hn
      · split at hk
        · exact .inl ⟨j, hk⟩
        · cases hk
      · exact .inr hn
    · simp only [if_neg q] at h
      exact .inl ⟨i, h⟩
theorem reps_sh : ∀ {ds : List D} {vs : List V}, Reps T K F ds vs → ∀ d ∈ ds, d.sh = true
  | [], _, _, d, hd => by cases hd
  | d :: ds, vs, h, e, he => by
    obtain ⟨v, r, rfl, h2, h3⟩ := h.uncons
    rcases List.mem_cons.mp he with rfl | he
    · exact h2.sh
    · exact reps_sh h3 e he
theorem args_one {c : D} {v : V} {fp : List Addr} {ds : List D} {vs : List V} (h1 : RepO T K F H (.own c) v fp) (h : Reps T K F ds vs) : ArgsAt T K F H (.pin c :: ds) (v :: vs) (fun i => if i = 0 then fp else []) := by
  have p := args_plain (H := H) h
  refine ⟨by simp [h.length], fun i d e => ?_, fun i j x h1 h2 => ?_, fun i e => ?_⟩
  · cases i with
    | zero =>
      simp only [List.getElem?_cons_zero, Option.some.injEq] at e
      subst e
      exact ⟨v, rfl, h1⟩
    | succ i =>
      obtain ⟨u, h3, h4⟩ := p.at_ i d (by simpa using e)
      exact ⟨u, by simpa using h3, h4⟩
  · split at h1
    · split at h2
      · omega
      · cases h2
    · cases h1
  · cases i with
    | zero => simp at e
    | succ i => rfl
theorem putPins_one {c c' : D} {ds : List D} {vs : List V} (h : Reps T K F ds vs) : putPins (.pin c :: ds) [c'] = .pin c' :: ds := by
  simp only [putPins]
  rw [pinless h]
theorem sound_callS {n : Nat} {m : List D → Option (R × List D)} {j : Nat} {ds : List D} {v : V} {vs : List V} {r : R} {Q : VK} (h : callS n m j ds env = some (r, env')) (A : Abs T K P F g env σ H) (hv : σ[j]? = some (some v)) (R0 : Reps T K F ds vs)
    (post : PostE T K P W env' F g σ H Q r) : spG T K n m (v :: vs) H Q (WE W σ) := by
  unfold callS at h
  split at h
  · rename_i hn
    split at h
    · rename_i c e
      have hj : j < env.length := (List.getElem?_eq_some_iff.mp e).1
      obtain ⟨v', hv', hs⟩ := A.at_ j _ e
      rw [hv] at hv'
      simp only [Option.some.injEq] at hv'
      subst hv'
      split at h
      · rename_i d c' em
        split at h
        · rename_i hd
          simp only [Option.some.injEq, Prod.mk.injEq] at h
          obtain ⟨rfl, rfl⟩ := h
          refine ⟨.pin c :: ds, F, fun i => if i = 0 then g j else [], .ok d, [c'], em, by simpa using hn, A.sub, args_one hs R0, fun u fp F' g' H' G s A' R' n' m' => ?_⟩
          rw [putPins_one R0] at A'
          obtain ⟨B, G'⟩ := slot_back (w := D.own) (w' := D.own) A hv hj (fun _ _ _ _ h => h) hs (fun _ _ _ h => h) G s A' (reps_sh R0)
          exact post u F' _ H' G' B ((repO_sh hd).mp R').2
        · cases h
      · rename_i x fs c' em
        simp only [Option.some.injEq, Prod.mk.injEq] at h
        obtain ⟨rfl, rfl⟩ := h
        refine ⟨.pin c :: ds, F, fun i => if i = 0 then g j else [], .ex x fs, [c'], em, by simpa using hn, A.sub, args_one hs R0, fun cls dd F' g' H' G s A' R' => ?_⟩
        rw [putPins_one R0] at A'
        obtain ⟨B, G'⟩ := slot_back (w := D.own) (w' := D.own) A hv hj (fun _ _ _ _ h => h) hs (fun _ _ _ h => h) G s A' (reps_sh R0)
        exact post cls dd F' _ H' G' B R'
      · cases h
    · rename_i c e
      have hj : j < env.length := (List.getElem?_eq_some_iff.mp e).1
      obtain ⟨v', hv', hs⟩ := A.at_ j _ e
      rw [hv] at hv'
      simp only [Option.some.injEq] at hv'
      subst hv'
      split at h
      · rename_i d c' em
        split at h
        · rename_i hd
          simp only [Option.some.injEq, Prod.mk.injEq] at h
          obtain ⟨rfl, rfl⟩ := h
          refine ⟨.pin c :: ds, F, fun i => if i = 0 then g j else [], .ok d, [c'], em, by simpa using hn, A.sub, args_one hs.1 R0, fun u fp F' g' H' G s A' R' n' m' => ?_⟩
          rw [putPins_one R0] at A'
          obtain ⟨B, G'⟩ := slot_back (w := D.pin) (w' := D.pin) A hv hj (fun _ _ _ _ h => h) hs (fun _ _ _ h => ⟨h, hs.2⟩) G s A' (reps_sh R0)
          exact post u F' _ H' G' B ((repO_sh hd).mp R').2
        · cases h
      · rename_i x fs c' em
        simp only [Option.some.injEq, Prod.mk.injEq] at h
        obtain ⟨rfl, rfl⟩ := h
        refine ⟨.pin c :: ds, F, fun i => if i = 0 then g j else [], .ex x fs, [c'], em, by simpa using hn, A.sub, args_one hs.1 R0, fun cls dd F' g' H' G s A' R' => ?_⟩
        rw [putPins_one R0] at A'
        obtain ⟨B, G'⟩ := slot_back (w := D.pin) (w' := D.pin) A hv hj (fun _ _ _ _ h => h) hs (fun _ _ _ h => ⟨h, hs.2⟩) G s A' (reps_sh R0)
        exact post cls dd F' _ H' G' B R'
      · cases h
    · cases h
  · cases h
variable {x : Str} {p pos : Pos} {e : Expr} {es : List Expr} {k : Nat} {f : Addr} {fd : FuncData} {ps : List Str} {n : Nat} {m : List D → Option (R × List D)} {dsv : List Value} {dvs : List V} {dds : List D} {fr : AM}
theorem de_callN (FN : FnOk X.prog X.w X.K X.mg X.base (L2.CX X.prog X.w) k f fd ps (spG T X.K n m)) (hr : Room k X.A) (hg : Gl X x) (hm : X.mg x = some (.ref f)) (hk : PySem.W.keepIn X.K (.ref f) = true) (hb : Binds X.K fd ps dsv) (hd : Vals dvs dsv) (hdd : ∀ F, Reps T X.K F dds dvs)
    (tk : Takes X W) (ha : DA T X P W (e :: es) fr) (hdb : (x == ("__debug__" : Str)) = false) (he : starEach (e :: es) X.env = (false, eval e X.env) :: starEach es X.env) (hpl : (backTo pos (starEach es X.env)).any (·.1) = false) :
    DE T X P W (.Call (.Name x p) (e :: es) [] pos) (dCallN n m dds fr) := by
  obtain ⟨ta, pa, sa⟩ := ha.ex
  refine ⟨_, pe_callSD FN hr hg hm hk hb hd (fun σ => passAt tk σ) pa hdb he hpl, fun env o env' h F g σ H Q A post => ?_⟩
  refine soundL_bind sa h A post.exx fun ds e1 h1 vs F1 g1 H1 G1 A1 R1 => ?_
  unfold callN at h1
  split at h1
  · rename_i hn
    exact sound_callP hn h1 A1 (R1.append (hdd F1)) (post.grow G1)
  · cases h1
theorem de_callS {j : Nat} (FN : FnOk X.prog X.w X.K X.mg X.base (L2.CX X.prog X.w) k f fd ps (spG T X.K n m)) (hr : Room k X.A) (hg : Gl X x) (hm : X.mg x = some (.ref f)) (hk : PySem.W.keepIn X.K (.ref f) = true) (hb : Binds X.K fd ps dsv) (hd : Vals dvs dsv) (hdd : ∀ F, Reps T X.K F dds dvs)
    (tk : Takes X W) (h0 : PE X e (tVar j)) (ha : DA T X P W es fr) (hdb : (x == ("__debug__" : Str)) = false) (he : starEach (e :: es) X.env = (false, eval e X.env) :: starEach es X.env) (hpl : (backTo pos (starEach es X.env)).any (·.1) = false) :
    DE T X P W (.Call (.Name x p) (e :: es) [] pos) (needS j (dCallS n m dds j fr)) := by
  obtain ⟨ta, pa, sa⟩ := ha.ex
  refine ⟨_, pe_callSD FN hr hg hm hk hb hd (fun σ => passAt tk σ) (pa_cons h0 pa he) hdb he hpl, fun env o env' h F g σ H Q A post => ?_⟩
  unfold needS at h
  split at h
  · rename_i d0 ej
    obtain ⟨v, hv, _⟩ := A.at_ j _ ej
    refine ⟨v, hv, ?_⟩
    refine soundL_bind sa h A post.exx fun ds e1 h1 vs F1 g1 H1 G1 A1 R1 => ?_
    exact sound_callS h1 A1 hv (R1.append (hdd F1)) (post.grow G1)
  · cases h
end
/-! ### statements -/
def seqS (f h : SM) : SM := fun env => match f env with
  | some (.nx, e) => h e
  | r => r
def nxS : SM := fun env => some (.nx, env)
def bkS : SM := fun env => some (.bk, env)
def ctS : SM := fun env => some (.ct, env)
def retN : SM := fun env => some (.rt .non, env)
def bS (fa : EM) (k : D → SM) : SM := fun env => match fa env with
  | some (.ok x, e) => k x e
  | some (.ex c fs, e) => some (.ex c fs, e)
  | none => none
def dropS (fa : EM) : SM := bS fa fun _ => nxS
def retS (fa : EM) : SM := bS fa fun d env => some (.rt d, env)
def retO (fa : EM) : SM := bS fa fun d env => some (.rt (.own d), env)
def ifS (c : BM) (f h : SM) : SM := fun env => match c env with
  | some (.ok true, e) => f e
  | some (.ok false, e) => h e
  | some (.ex c fs, e) => some (.ex c fs, e)
  | none => none
/-- a slot that is no parameter's owned thing -/
def freeSl (env : DEnv) (i : Nat) : Bool := match env[i]? with
  | some (some (.pin _)) => false
  | some _ => true
  | none => false
def putS (i : Nat) (d : D) (env : DEnv) : Option DEnv := if freeSl env i = true then some (env.set i (some d)) else none
def toS (o : Option DEnv) : Option (Out × DEnv) := match o with
  | some e => some (.nx, e)
  | none => none
def setS (i : Nat) (fa : EM) : SM := bS fa fun d env => toS (putS i d env)
def setO (i : Nat) (fa : EM) : SM := bS fa fun d env => toS (putS i (.own d) env)
section
variable {T : Tb} {X : Cx} {P : Nat → Option V} {W : WX} {K : PySem.W.Frag} {F F' F1 H H' H1 : Hp} {g g1 : Nat → List Addr} {env env' : DEnv} {σ : L2.St}
theorem soundS_bind {fa : EM} {ta : TE} (sa : SoundE T K P W fa ta) {k : D → SM} {r : Out} {Q' : VK} (h : bS fa k env = some (r, env')) (A : Abs T K P F g env σ H)
    (hx : ∀ c fs, r = .ex c fs → ExE T K P W env' F g σ H c fs)
    (kk : ∀ x e1, k x e1 = some (r, env') → ∀ v F1 g1 H1, Grow F g H F1 g1 H1 → Abs T K P F1 g1 e1 σ H1 → Rep T K F1 x v → Q' v H1) : ta σ H Q' := by
  unfold bS at h
  cases e : fa env with
  | none => rw [e] at h; cases h
  | some p =>
    obtain ⟨q, e1⟩ := p
    rw [e] at h
    cases q with
    | ok x => exact sa env _ _ e F g σ H Q' A fun v F1 g1 H1 G A1 R1 => kk x e1 h v F1 g1 H1 G A1 R1
    | ex c fs =>
      simp only [Option.some.injEq, Prod.mk.injEq] at h
      obtain ⟨rfl, rfl⟩ := h
      exact sa env _ _ e F g σ H Q' A (hx c fs rfl)
theorem soundSO_bind {fa : EM} {ta : TE} (sa : SoundO T K P W fa ta) {k : D → SM} {r : Out} {Q' : VK} (h : bS fa k env = some (r, env')) (A : Abs T K P F g env σ H)
    (hx : ∀ c fs, r = .ex c fs → ExE T K P W env' F g σ H c fs)
    (kk : ∀ x e1, k x e1 = some (r, env') → ∀ v fp F1 g1 H1, Grow F g H F1 g1 H1 → Abs T K P F1 g1 e1 σ H1 → RepO T K F1 H1 (.own x) v fp → (∀ i, ∀ y ∈ fp, y ∉ g1 i) → (∀ y ∈ fp, (∃ j, y ∈ g j) ∨ H y = none) → Q' v H1) : ta σ H Q' := by
  unfold bS at h
  cases e : fa env with
  | none => rw [e] at h; cases h
  | some p =>
    obtain ⟨q, e1⟩ := p
    rw [e] at h
    cases q with
    | ok x => exact sa env _ _ e F g σ H Q' A fun v fp F1 g1 H1 G A1 R1 n1 m1 => kk x e1 h v fp F1 g1 H1 G A1 R1 n1 m1
    | ex c fs =>
      simp only [Option.some.injEq, Prod.mk.injEq] at h
      obtain ⟨rfl, rfl⟩ := h
      exact sa env _ _ e F g σ H Q' A (hx c fs rfl)
theorem PostS.exx {Z : Ends} {r : Out} (h : PostS T K P W env' F g H Z r) : ∀ c fs, r = .ex c fs → ExE T K P W env' F g σ H c fs := fun c fs e => by subst e; exact h σ
/-- Z's other ways do not matter to an end of another kind -/
theorem PostS.imp {Z Z' : Ends} {r : Out} (h : PostS T K P W env' F g H Z r) (h1 : r = .nx → ∀ F' g' σ' H', Grow F g H F' g' H' → Abs T K P F' g' env' σ' H' → Z.nx σ' H' → Z'.nx σ' H')
    (h2 : r = .bk → ∀ F' g' σ' H', Grow F g H F' g' H' → Abs T K P F' g' env' σ' H' → Z.bk σ' H' → Z'.bk σ' H') (h3 : r = .ct → ∀ F' g' σ' H', Grow F g H F' g' H' → Abs T K P F' g' env' σ' H' → Z.ct σ' H' → Z'.ct σ' H') (h4 : ∀ v H, Z.rt v H → Z'.rt v H) : PostS T K P W env' F g H Z' r := by
  cases r with
  | nx => exact fun F' g' σ' H' G A => h1 rfl F' g' σ' H' G A (h F' g' σ' H' G A)
  | bk => exact fun F' g' σ' H' G A => h2 rfl F' g' σ' H' G A (h F' g' σ' H' G A)
  | ct => exact fun F' g' σ' H' G A => h3 rfl F' g' σ' H' G A (h F' g' σ' H' G A)
  | rt d => exact fun v fp F' g' σ' H' G A r n m => h4 v H' (h v fp F' g' σ' H' G A r n m)
  | ex c fs => exact h
variable {s : Stmt} {ss : List Stmt} {fs fr : SM} {e c : Expr} {fe : EM} {bc : BM} {pos : Pos}
theorem ds_nil : DSs T X P W [] nxS := by
  refine ⟨_, pss_nil, fun env o env' h F g σ H Z A post => ?_⟩
  unfold nxS at h
  simp only [Option.some.injEq, Prod.mk.injEq] at h
  obtain ⟨rfl, rfl⟩ := h
  exact post F g σ H (Grow.refl _ _ _) A
theorem ds_cons (h1 : DS1 T X P W s fs) (h2 : DSs T X P W ss fr) : DSs T X P W (s :: ss) (seqS fs fr) := by
  obtain ⟨t1, p1, s1⟩ := h1.ex
  obtain ⟨t2, p2, s2⟩ := h2.ex
  refine ⟨_, pss_cons p1 p2, fun env o env' h F g σ H Z A post => ?_⟩
  unfold seqS at h
  show t1 { Z with nx := t2 Z } σ H
  cases e1 : fs env with
  | none => rw [e1] at h; cases h
  | some q =>
    obtain ⟨o1, e2⟩ := q
    rw [e1] at h
    refine s1 env o1 e2 e1 F g σ H _ A ?_
    cases o1 with
    | nx => exact fun F' g' σ' H' G A' => s2 e2 o env' h F' g' σ' H' Z A' (post.grow G)
    | bk => simp only [Option.some.injEq, Prod.mk.injEq] at h; obtain ⟨rfl, rfl⟩ := h; exact post
    | ct => simp only [Option.some.injEq, Prod.mk.injEq] at h; obtain ⟨rfl, rfl⟩ := h; exact post
    | rt d => simp only [Option.some.injEq, Prod.mk.injEq] at h; obtain ⟨rfl, rfl⟩ := h; exact post
    | ex c fs => simp only [Option.some.injEq, Prod.mk.injEq] at h; obtain ⟨rfl, rfl⟩ := h; exact post
theorem ds_one (h1 : DS1 T X P W s fs) : DSs T X P W [s] fs := by
  obtain ⟨t1, p1, s1⟩ := h1.ex
  exact ⟨_, pss_one p1, s1⟩
theorem ds_expr (he : DE T X P W e fe) (hs : swapsWith e none pos.line X.env = pure false) : DS1 T X P W (.Expr e pos) (dropS fe) := by
  obtain ⟨t, p, sE⟩ := he.ex
  refine ⟨_, ps_expr p hs, fun env o env' h F g σ H Z A post => ?_⟩
  refine soundS_bind sE h A post.exx fun d e1 h1 v F1 g1 H1 G1 A1 R1 => ?_
  unfold nxS at h1
  simp only [Option.some.injEq, Prod.mk.injEq] at h1
  obtain ⟨rfl, rfl⟩ := h1
  exact post F1 g1 σ H1 G1 A1
theorem ds_ret (he : DE T X P W e fe) : DS1 T X P W (.Return (some e) pos) (retS fe) := by
  obtain ⟨t, p, sE⟩ := he.ex
  refine ⟨_, ps_ret p, fun env o env' h F g σ H Z A post => ?_⟩
  refine soundS_bind sE h A post.exx fun d e1 h1 v F1 g1 H1 G1 A1 R1 => ?_
  simp only [Option.some.injEq, Prod.mk.injEq] at h1
  obtain ⟨rfl, rfl⟩ := h1
  exact post v [] F1 g1 σ H1 G1 A1 ((repO_sh R1.sh).mpr ⟨rfl, R1⟩) (fun _ _ h => by cases h) fun _ h => by cases h
theorem ds_retO (he : DO T X P W e fe) : DS1 T X P W (.Return (some e) pos) (retO fe) := by
  obtain ⟨t, p, sE⟩ := he.ex
  refine ⟨_, ps_ret p, fun env o env' h F g σ H Z A post => ?_⟩
  refine soundSO_bind sE h A post.exx fun d e1 h1 v fp F1 g1 H1 G1 A1 R1 n1 m1 => ?_
  simp only [Option.some.injEq, Prod.mk.injEq] at h1
  obtain ⟨rfl, rfl⟩ := h1
  exact post v fp F1 g1 σ H1 G1 A1 R1 n1 m1
/-- a statement that is never reached -/
theorem ds_never : DS1 T X P W s (fun _ => none) := ⟨_, ps_never, fun env o env' h => by cases h⟩
theorem ds_if {a b : List Stmt} {fa fb : SM} (hc : DT T X P W c bc) (ha : DSs T X P W a fa) (hb : DSs T X P W b fb) : DS1 T X P W (.If c a b pos) (ifS bc fa fb) := by
  obtain ⟨tc, pc, sc⟩ := hc.ex
  obtain ⟨ta, pa, sa⟩ := ha.ex
  obtain ⟨tb, pb, sb⟩ := hb.ex
  refine ⟨_, ps_if pc pa pb, fun env o env' h F g σ H Z A post => ?_⟩
  unfold ifS at h
  show tc σ H fun k H1 => if k = true then ta Z σ H1 else tb Z σ H1
  cases e1 : bc env with
  | none => rw [e1] at h; cases h
  | some q =>
    obtain ⟨o1, e2⟩ := q
    rw [e1] at h
    refine sc env o1 e2 e1 F g σ H _ A ?_
    cases o1 with
    | ok k =>
      intro F1 g1 H1 G1 A1
      cases k with
      | true => rw [if_pos rfl]; exact sa e2 o env' h F1 g1 σ H1 Z A1 (post.grow G1)
      | false => rw [if_neg Bool.false_ne_true]; exact sb e2 o env' h F1 g1 σ H1 Z A1 (post.grow G1)
    | ex c fs =>
      simp only [Option.some.injEq, Prod.mk.injEq] at h
      obtain ⟨rfl, rfl⟩ := h
      exact post σ
theorem freeSl_lt {i : Nat} (h : freeSl env i = true) : i < env.length := by
  unfold freeSl at h
  split at h
  · cases h
  · rename_i e; exact (List.getElem?_eq_some_iff.mp e).1
  · cases h
/-- a slot is set to plain data -/
theorem Abs.put (A : Abs T K P F g env σ H) {i : Nat} {d : D} {v : V} (hi : i < env.length) (r : Rep T K F d v) : Abs T K P F (fun j => if j = i then [] else g j) (env.set i (some d)) (σ.set i (some v)) H := by
  have B := A.drop i (w := none)
  have C := B.set (i := i) (d := d) (v := v) (by simpa using hi) (by simp) r
  rw [List.set_set, List.set_set] at C
  exact C
theorem Abs.putO (A : Abs T K P F g env σ H) {i : Nat} {d : D} {v : V} {fp : List Addr} (hi : i < env.length) (r : RepO T K F H (.own d) v fp) (n : ∀ j, ∀ x ∈ fp, x ∉ g j) : Abs T K P F (fun j => if j = i then fp else g j) (env.set i (some (.own d))) (σ.set i (some v)) H := by
  refine ⟨A.sub, by simpa using A.len, fun j c e => ?_, fun j k x h1 h2 => ?_, fun j h => ?_⟩
  · by_cases q : i = j
    · subst q
      rw [List.getElem?_set_self hi] at e
      cases e
      refine ⟨v, by rw [List.getElem?_set_self (by rw [← A.len]; exact hi)], ?_⟩
      simp only [if_pos]
      exact r
    · rw [List.getElem?_set_ne q] at e
      rw [List.getElem?_set_ne q]
      simp only [if_neg (Ne.symm q)]
      exact A.at_ j c e
  · by_cases qj : j = i
    · by_cases qk : k = i
      · rw [qj, qk]
      · simp only [if_pos qj, if_neg qk] at h1 h2
        exact absurd h2 (n k x h1)
    · by_cases qk : k = i
      · simp only [if_neg qj, if_pos qk] at h1 h2
        exact absurd h1 (n j x h2)
      · simp only [if_neg qj, if_neg qk] at h1 h2
        exact A.dis j k x h1 h2
  · by_cases q : i = j
    · subst q
      exact absurd (List.getElem?_set_self hi) (h _)
    · simp only [if_neg (Ne.symm q)]
      refine A.out j fun c e => h c ?_
      rw [List.getElem?_set_ne q]; exact e
theorem grow_less {g2 : Nat → List Addr} (h : ∀ i a, a ∈ g2 i → ∃ j, a ∈ g j) : Grow F g H F g2 H := ⟨Same.refl _, fun _ _ _ h => h, fun _ _ _ _ h => h, fun i a q => .inl (h i a q)⟩
theorem grow_put {i : Nat} : Grow F g H F (fun j => if j = i then [] else g j) H := grow_less fun j a h => by
  split at h
  · cases h
  · exact ⟨j, h⟩
theorem sound_set {i : Nat} {te : TE} (sE : SoundE T K P W fe te) : SoundS T K P W (setS i fe) (tAsg te (gName i)) := by
  intro env o env' h F g σ H Z A post
  refine soundS_bind sE h A post.exx fun d e1 h1 v F1 g1 H1 G1 A1 R1 => ?_
  unfold putS at h1
  split at h1
  · rename_i hf
    simp only [toS, Option.some.injEq, Prod.mk.injEq] at h1
    obtain ⟨rfl, rfl⟩ := h1
    exact post F1 _ _ H1 (G1.trans grow_put) (A1.put (freeSl_lt hf) R1)
  · cases h1
theorem sound_setO {i : Nat} {te : TE} (sE : SoundO T K P W fe te) : SoundS T K P W (setO i fe) (tAsg te (gName i)) := by
  intro env o env' h F g σ H Z A post
  refine soundSO_bind sE h A post.exx fun d e1 h1 v fp F1 g1 H1 G1 A1 R1 n1 m1 => ?_
  unfold putS at h1
  split at h1
  · rename_i hf
    simp only [toS, Option.some.injEq, Prod.mk.injEq] at h1
    obtain ⟨rfl, rfl⟩ := h1
    refine post F1 _ _ H1 ⟨G1.sub, G1.keep, G1.fr, fun j a h => ?_⟩ (A1.putO (freeSl_lt hf) R1 n1)
    split at h
    · exact m1 a h
    · exact G1.new j a h
  · cases h1
theorem ds_set {i : Nat} {x : Str} {pos' : Pos} (hN : X.N.Nodup) (hi : X.N[i]? = some x) (hx : Loc X.env.scope x) (he : DE T X P W e fe) (hs : swapsWith e (some (.Name x pos')) pos.line X.env = pure false) (hf : X.fn x = true ∨ X.env.scope.names.lookup x = some .local) :
    DS1 T X P W (.Assign [.Name x pos'] e pos) (setS i fe) := by
  obtain ⟨t, p, sE⟩ := he.ex
  exact ⟨_, ps_set hN hi hx p hs hf, sound_set sE⟩
theorem ds_setO {i : Nat} {x : Str} {pos' : Pos} (hN : X.N.Nodup) (hi : X.N[i]? = some x) (hx : Loc X.env.scope x) (he : DO T X P W e fe) (hs : swapsWith e (some (.Name x pos')) pos.line X.env = pure false) (hf : X.fn x = true ∨ X.env.scope.names.lookup x = some .local) :
    DS1 T X P W (.Assign [.Name x pos'] e pos) (setO i fe) := by
  obtain ⟨t, p, sE⟩ := he.ex
  exact ⟨_, ps_set hN hi hx p hs hf, sound_setO sE⟩
end
end DS
namespace DS
open PySem PySem.Spec L2
/-! ### what is walked -/
inductive RI where
  | ok (xs : List D) | ex (c : Nat) (fs : List (Nat × D))
abbrev IM := DEnv → Option (RI × DEnv)
def liftI (o : Option (List D)) : IM := fun env => match o with
  | some xs => some (.ok xs, env)
  | none => none
def bIE (fa : EM) (k : D → IM) : IM := fun env => match fa env with
  | some (.ok x, e) => k x e
  | some (.ex c fs, e) => some (.ex c fs, e)
  | none => none
def bIA (fa : AM) (k : List D → IM) : IM := fun env => match fa env with
  | some (.ok x, e) => (match shs x with
    | some ds => k ds e
    | none => none)
  | some (.ex c fs, e) => some (.ex c fs, e)
  | none => none
section
variable (T : Tb) (K : PySem.W.Frag) (P : Nat → Option V) (W : WX)
/-- J gives what stands for xs, while F stands -/
structure IterD (F : Hp) (J : It) (xs : List D) : Prop where
  goes : ∀ i H, i < xs.length → Same F H → J.go i H
  stops : ∀ H, Same F H → J.stop xs.length H
  yld : ∀ i H x H', i < xs.length → Same F H → J.yld i H x H' → ∀ F2, Same F F2 → Same F2 H → ∃ d F3, xs[i]? = some d ∧ New F2 H F3 H' ∧ Rep T K F3 d x
def PostI (env' : DEnv) (F : Hp) (g : Nat → List Addr) (σ : L2.St) (H : Hp) (R : It → Hp → Prop) : RI → Prop
  | .ok xs => ∀ J F' g' H', Grow F g H F' g' H' → Abs T K P F' g' env' σ H' → IterD T K F' J xs → R J H'
  | .ex c fs => ExE T K P W env' F g σ H c fs
def SoundI (f : IM) (t : TI) : Prop := ∀ env r env', f env = some (r, env') → ∀ F g σ H R, Abs T K P F g env σ H → PostI T K P W env' F g σ H R r → t σ H R
/-- targets: the plain value is laid into the slots ws -/
abbrev GM := D → DEnv → Option DEnv
def SoundG (ws : List Nat) (f : GM) (t : TG) : Prop := ∀ d env env', f d env = some env' → ∀ F g σ H v Q, Abs T K P F g env σ H → Rep T K F d v →
  (∀ g' σ', (∀ i a, a ∈ g' i → a ∈ g i) → Abs T K P F g' env' σ' H → σ'.length = σ.length → (∀ j, j ∉ ws → σ'[j]? = σ[j]?) → Q σ' H) → t v σ H Q
def SoundGs (ws : List Nat) (f : List D → DEnv → Option DEnv) (t : TGs) : Prop := ∀ ds env env', f ds env = some env' → ∀ F g σ H vs Q, Abs T K P F g env σ H → Reps T K F ds vs →
  (∀ g' σ', (∀ i a, a ∈ g' i → a ∈ g i) → Abs T K P F g' env' σ' H → σ'.length = σ.length → (∀ j, j ∉ ws → σ'[j]? = σ[j]?) → Q σ' H) → t vs σ H Q
end
structure DI (T : Tb) (X : Cx) (P : Nat → Option V) (W : WX) (tg iter : Expr) (f : IM) : Prop where
  ex : ∃ t, PI X tg iter t ∧ SoundI T X.K P W f t
structure DG (T : Tb) (X : Cx) (P : Nat → Option V) (tg : Expr) (ws : List Nat) (f : GM) : Prop where
  ex : ∃ t, PG X tg t ∧ SoundG T X.K P ws f t
structure DGs (T : Tb) (X : Cx) (P : Nat → Option V) (tgs : List Expr) (ws : List Nat) (f : List D → DEnv → Option DEnv) : Prop where
  ex : ∃ t, PGs X tgs t ∧ SoundGs T X.K P ws f t
section
variable {T : Tb} {X : Cx} {P : Nat → Option V} {W : WX} {K : PySem.W.Frag} {F F' F1 H H' H1 : Hp} {g g1 : Nat → List Addr} {env env' : DEnv} {σ : L2.St}
theorem PostI.grow {Q : It → Hp → Prop} {r : RI} (h : PostI T K P W env' F g σ H Q r) (G : Grow F g H F1 g1 H1) : PostI T K P W env' F1 g1 σ H1 Q r := by
  cases r with
  | ok d => exact fun J F' g' H' G' => h J F' g' H' (G.trans G')
  | ex c fs => exact ExE.grow h G
theorem PostI.exx {Q : It → Hp → Prop} {r : RI} (h : PostI T K P W env' F g σ H Q r) : ∀ c fs, r = .ex c fs → ExE T K P W env' F g σ H c fs := fun c fs e => by subst e; exact h
theorem soundIE_bind {fa : EM} {ta : TE} (sa : SoundE T K P W fa ta) {k : D → IM} {r : RI} {Q' : VK} (h : bIE fa k env = some (r, env')) (A : Abs T K P F g env σ H)
    (hx : ∀ c fs, r = .ex c fs → ExE T K P W env' F g σ H c fs)
    (kk : ∀ x e1, k x e1 = some (r, env') → ∀ v F1 g1 H1, Grow F g H F1 g1 H1 → Abs T K P F1 g1 e1 σ H1 → Rep T K F1 x v → Q' v H1) : ta σ H Q' := by
  unfold bIE at h
  cases e : fa env with
  | none => rw [e] at h; cases h
  | some p =>
    obtain ⟨q, e1⟩ := p
    rw [e] at h
    cases q with
    | ok x => exact sa env _ _ e F g σ H Q' A fun v F1 g1 H1 G A1 R1 => kk x e1 h v F1 g1 H1 G A1 R1
    | ex c fs =>
      simp only [Option.some.injEq, Prod.mk.injEq] at h
      obtain ⟨rfl, rfl⟩ := h
      exact sa env _ _ e F g σ H Q' A (hx c fs rfl)
theorem soundIA_bind {fa : AM} {ta : TA} (sa : SoundA T K P W fa ta) {k : List D → IM} {r : RI} {Q' : List V → Hp → Prop} (h : bIA fa k env = some (r, env')) (A : Abs T K P F g env σ H)
    (hx : ∀ c fs, r = .ex c fs → ExE T K P W env' F g σ H c fs)
    (kk : ∀ x e1, k x e1 = some (r, env') → ∀ vs F1 g1 H1, Grow F g H F1 g1 H1 → Abs T K P F1 g1 e1 σ H1 → Reps T K F1 x vs → Q' vs H1) : ta σ H Q' := by
  unfold bIA at h
  cases e : fa env with
  | none => rw [e] at h; cases h
  | some p =>
    obtain ⟨q, e1⟩ := p
    rw [e] at h
    cases q with
    | ok x =>
      refine sa env _ _ e F g σ H Q' A fun v F1 g1 H1 G A1 R1 => ?_
      simp only at h
      cases es : shs x with
      | none => rw [es] at h; cases h
      | some ds =>
        rw [es] at h
        exact kk ds e1 h v F1 g1 H1 G A1 (shs_reps R1 es)
    | ex c fs =>
      simp only [Option.some.injEq, Prod.mk.injEq] at h
      obtain ⟨rfl, rfl⟩ := h
      exact sa env _ _ e F g σ H Q' A (hx c fs rfl)
theorem liftI_eq {o : Option (List D)} {r : RI} (h : liftI o env = some (r, env')) : ∃ d, o = some d ∧ r = .ok d ∧ env' = env := by
  unfold liftI at h
  cases o with
  | none => cases h
  | some d =>
    simp only [Option.some.injEq, Prod.mk.injEq] at h
    exact ⟨d, rfl, h.1.symm, h.2.symm⟩
/-! ### targets -/
def gmName (i : Nat) : GM := putS i
def gmTup (f : List D → DEnv → Option DEnv) : GM := fun d env => match d with
  | .tup xs => f xs env
  | _ => none
def gmNil : List D → DEnv → Option DEnv := fun ds env => match ds with
  | [] => some env
  | _ => none
def gmCons (f : GM) (h : List D → DEnv → Option DEnv) : List D → DEnv → Option DEnv := fun ds env => match ds with
  | d :: r => (match f d env with
    | some e => h r e
    | none => none)
  | [] => none
theorem putS_eq {i : Nat} {d : D} (h : putS i d env = some env') : i < env.length ∧ env' = env.set i (some d) := by
  unfold putS at h
  split at h
  · rename_i hf
    simp only [Option.some.injEq] at h
    exact ⟨freeSl_lt hf, h.symm⟩
  · cases h
theorem dg_name {i : Nat} {x : Str} {pos : Pos} (hN : X.N.Nodup) (hi : X.N[i]? = some x) (hx : Loc X.env.scope x) (hf : X.fn x = true ∨ X.env.scope.names.lookup x = some .local) : DG T X P (.Name x pos) [i] (gmName i) := by
  refine ⟨_, pg_name hN hi hx hf, fun d env env' h F g σ H v Q A R q => ?_⟩
  obtain ⟨h1, rfl⟩ := putS_eq h
  refine q _ _ (fun j a ha => ?_) (A.put h1 R) (by simp) fun j hj => ?_
  · split at ha
    · cases ha
    · exact ha
  · rw [List.getElem?_set_ne (by intro e; exact hj (by simp [e]))]
theorem dgs_nil : DGs T X P [] [] gmNil := by
  refine ⟨_, pgs_nil, fun ds env env' h F g σ H vs Q A R q => ?_⟩
  unfold gmNil at h
  split at h
  · simp only [Option.some.injEq] at h
    subst h
    simp only [Reps] at R
    exact ⟨R, q g σ (fun _ _ h => h) A rfl fun _ _ => rfl⟩
  · cases h
theorem dgs_cons {e : Expr} {es : List Expr} {w1 w2 : List Nat} {f : GM} {h : List D → DEnv → Option DEnv} (h1 : DG T X P e w1 f) (h2 : DGs T X P es w2 h) (hs : (assignEach (e :: es) X.env).map (·.2) = assign e X.env :: (assignEach es X.env).map (·.2)) : DGs T X P (e :: es) (w1 ++ w2) (gmCons f h) := by
  obtain ⟨t1, p1, s1⟩ := h1.ex
  obtain ⟨t2, p2, s2⟩ := h2.ex
  refine ⟨_, pgs_cons p1 p2 hs, fun ds env env' hh F g σ H vs Q A R q => ?_⟩
  unfold gmCons at hh
  split at hh
  · rename_i d r
    obtain ⟨v, vr, rfl, R1, R2⟩ := R.uncons
    cases e1 : f d env with
    | none => rw [e1] at hh; cases hh
    | some e2 =>
      rw [e1] at hh
      refine ⟨v, vr, rfl, s1 d env e2 e1 F g σ H v _ A R1 fun g' σ' hg A' hl hz => ?_⟩
      refine s2 r e2 env' hh F g' σ' H vr Q A' R2 fun g2 σ2 hg2 A2 hl2 hz2 => ?_
      refine q g2 σ2 (fun i a ha => hg i a (hg2 i a ha)) A2 (hl2.trans hl) fun j hj => ?_
      rw [List.mem_append, not_or] at hj
      exact (hz2 j hj.2).trans (hz j hj.1)
  · cases hh
theorem dg_tup {es : List Expr} {k : Nat} {pos : Pos} {ws : List Nat} {h : List D → DEnv → Option DEnv} {n : Nat} (hc : X.calm = true) (h1 : DGs T X P es ws h) (hn : (assignEach es X.env).length = n) (hst : (assignEach es X.env).findIdx? (·.1) = none) (hl : ∀ xs env env', h xs env = some env' → xs.length = n) :
    DG T X P (.Tuple es k pos) ws (gmTup h) := by
  obtain ⟨t, p, s⟩ := h1.ex
  refine ⟨_, pg_tup hc p hn hst, fun d env env' hh F g σ H v Q A R q => ?_⟩
  unfold gmTup at hh
  split at hh
  · rename_i xs
    simp only [Rep] at R
    obtain ⟨a, vs, rfl, h2, h3⟩ := R
    refine ⟨a, vs, rfl, same_sqT A.sub h2.sq, ?_, s xs env env' hh F g σ H vs Q A h3 q⟩
    rw [← h3.length]
    exact hl xs env env' hh
  · cases hh
/-! ### sources -/
/-- a list, a tuple, a text -/
def seqItems : D → Option (List D)
  | .lst xs => some xs
  | .tup xs => some xs
  | .str x => some (x.map fun c => .str [c])
  | _ => none
def iSeq (fa : EM) : IM := bIE fa fun x => liftI (seqItems x)
def rangeD (lo : Int) (n : Nat) : List D := (List.range n).map fun (i : Nat) => .int (lo + (i : Int))
def big62 (i : Int) : Bool := geI 4611686018427387904 i && ltI 4611686018427387904 i
def iRange1 (fa : AM) : IM := bIA fa fun ds => liftI (match ds with
  | [.int j] => if big62 j = true then some (rangeD 0 j.toNat) else none
  | _ => none)
def iRange2 (fa : AM) : IM := bIA fa fun ds => liftI (match ds with
  | [.int i, .int j] => if (big62 i && big62 j) = true then some (rangeD i (j - i).toNat) else none
  | _ => none)
/-- the pairs of places and items -/
def enumD (xs : List D) : List D := xs.zipIdx.map fun p => .tup [.int (p.2 : Int), p.1]
def zipD (xs ys : List D) : List D := (xs.zip ys).map fun p => .tup [p.1, p.2]
def iZipD (fa : AM) : IM := bIA fa fun ds => liftI (match ds with
  | [.lst xs, .lst ys] => some (zipD xs ys)
  | [.tup xs, .tup ys] => some (zipD xs ys)
  | _ => none)
/-- what pi_list, pi_tup, pi_str ask, whichever it is -/
def iAny (K : PySem.W.Frag) (te : TE) : TI := fun σ H R => te σ H fun x H1 => (∃ a, x = .ref a ∧ (∃ xs, SqL K H1 a xs) ∧ R (Itl K a) H1) ∨ (∃ a, x = .ref a ∧ (∃ xs, SqT K H1 a xs) ∧ R (Itt K a) H1) ∨ ∃ z, x = .str z ∧ R (Its z) H1
/-- an expression whose value is known -/
theorem pi_any {tg l : Expr} {tl : TE} (hl : PE X l tl) : PI X tg l (iAny X.K tl) := by
  refine ⟨fun pins s σ H R I h => ?_⟩
  refine thn (hl.run pins s σ H _ I h) fun v s1 ⟨x, H1, I1, r1, q1⟩ => ?_
  rcases q1 with ⟨a, e, ⟨xs, hq⟩, q⟩ | ⟨a, e, ⟨xs, hq⟩, q⟩ | ⟨z, e, q⟩
  · subst e
    cases r1
    obtain ⟨its, rv, p, hz⟩ := I1.list hq
    refine wpAny_pyIter_list p.isList ?_
    refine ⟨s1.heap.objs.size, [s1.heap.objs.size], _, _, H1, rfl, I1.kept (t' := s1.toks) fun b o e => Heap.get?_push_of_some _ e, turn_list a _, ⟨_, Heap.get?_push_size _ rfl, rfl, rfl⟩, fun b hb => ?_, q⟩
    have e : b = s1.heap.objs.size := by simpa using hb
    subst e
    exact I1.fpOk (Nat.le_refl _) (I1.hok.fresh (Nat.le_refl _))
  · subst e
    cases r1
    obtain ⟨its, rv, p, hz⟩ := I1.tuple hq
    refine wpAny_pyIter_tuple (show s1.heap.IsTuple a its.toArray from p) ?_
    refine ⟨s1.heap.objs.size, [s1.heap.objs.size], _, _, H1, rfl, I1.kept (t' := s1.toks) fun b o e => Heap.get?_push_of_some _ e, turn_tuple a _, ⟨_, Heap.get?_push_size _ rfl, rfl, rfl⟩, fun b hb => ?_, q⟩
    have e : b = s1.heap.objs.size := by simpa using hb
    subst e
    exact I1.fpOk (Nat.le_refl _) (I1.hok.fresh (Nat.le_refl _))
  · subst e
    obtain ⟨t, rfl⟩ := r1
    cases ha : z.cps.all (· < 128)
    · exact wpAny_pyIter_wide ha (pi_one (tk := s1.toks) I1 _ (turn_str _ z t "str_iterator" (.inr rfl)) ⟨_, Heap.get?_push_size _ rfl, rfl, rfl⟩ q)
    · exact wpAny_pyIter_ascii ha (pi_one (tk := s1.toks) I1 _ (turn_str _ z t "str_ascii_iterator" (.inl rfl)) ⟨_, Heap.get?_push_size _ rfl, rfl, rfl⟩ q)
end
end DS
namespace DS
open PySem PySem.Spec L2
section
variable {T : Tb} {X : Cx} {P : Nat → Option V} {W : WX} {K : PySem.W.Frag} {F F' F1 H H' H1 : Hp} {g g1 : Nat → List Addr} {env env' : DEnv} {σ : L2.St}
theorem iter_list {a : Addr} {vs : List V} {ds : List D} (h : F a = some (.lst vs)) (r : Reps T K F ds vs) : IterD T K F (Itl K a) ds := by
  have hl := r.length
  refine ⟨fun i H hi s => ?_, fun H s => ⟨vs, SqL.of (s _ _ h), by omega⟩, fun i H x H' hi s y F2 s1 s2 => ?_⟩
  · have hi' : i < vs.length := by omega
    exact ⟨vs, vs[i], SqL.of (s _ _ h), by simp [hi']⟩
  · obtain ⟨rfl, y⟩ := y
    obtain ⟨d, h1, h2⟩ := r.getV (y vs (SqL.of (s _ _ h)))
    exact ⟨d, F2, h1, .refl, h2.mono s1 _ _⟩
theorem iter_tup {a : Addr} {vs : List V} {ds : List D} (h : SqT K F a vs) (r : Reps T K F ds vs) : IterD T K F (Itt K a) ds := by
  have hl := r.length
  refine ⟨fun i H hi s => ?_, fun H s => ⟨vs, same_sqT s h, by omega⟩, fun i H x H' hi s y F2 s1 s2 => ?_⟩
  · have hi' : i < vs.length := by omega
    exact ⟨vs, vs[i], same_sqT s h, by simp [hi']⟩
  · obtain ⟨rfl, y⟩ := y
    obtain ⟨d, h1, h2⟩ := r.getV (y vs (same_sqT s h))
    exact ⟨d, F2, h1, .refl, h2.mono s1 _ _⟩
theorem strB_one {x : List Nat} {c : Nat} (hb : strB x = true) (hc : c ∈ x) : strB [c] = true := by
  unfold strB at hb ⊢
  have h1 := (Bool.and_eq_true_iff.mp hb).1
  have h2 := List.all_eq_true.mp h1 c hc
  simpa using h2
theorem iter_str {x : List Nat} (hb : strB x = true) : IterD T K F (Its ⟨x.toArray⟩) (x.map fun c => .str [c]) := by
  have hz : (⟨x.toArray⟩ : Str).cps.size = (x.map fun c => D.str [c]).length := by
    show x.toArray.size = _
    simp
  refine ⟨fun i H hi s => ?_, fun H s => ?_, fun i H v H' hi s y F2 s1 s2 => ?_⟩
  · show i < (⟨x.toArray⟩ : Str).cps.size
    rw [hz]; exact hi
  · show (⟨x.toArray⟩ : Str).cps.size ≤ _
    rw [hz]; exact Nat.le_refl _
  · obtain ⟨rfl, c, h1, rfl⟩ := y
    have h1' : x[i]? = some c := by simpa using h1
    refine ⟨.str [c], F2, by rw [List.getElem?_map, h1']; rfl, .refl, ?_⟩
    exact rep_s (strB_one hb (List.mem_of_getElem? h1'))
theorem iter_range {lo : Int} {n : Nat} : IterD T K F (Itr lo n) (rangeD lo n) := by
  have hz : (rangeD lo n).length = n := by simp [rangeD]
  refine ⟨fun i H hi s => ?_, fun H s => ?_, fun i H v H' hi s y F2 s1 s2 => ?_⟩
  · show i < n
    rw [hz] at hi; exact hi
  · show n ≤ _
    rw [hz]; exact Nat.le_refl _
  · obtain ⟨rfl, rfl⟩ := y
    rw [hz] at hi
    refine ⟨.int (lo + i), F2, by simp [rangeD, hi], .refl, rep_int⟩
theorem rep_pair {x y : D} {u v : V} {T0 : Addr} {F2 : Hp} (s : Same F2 H) (hn : H T0 = none) (h1 : Rep T K F2 x u) (h2 : Rep T K F2 y v) : Rep T K (upd F2 T0 (.tup [u, v])) (.tup [x, y]) (.ref T0) :=
  rep_newT s hn (Reps.cons h1 (Reps.cons h2 Reps.nil))
theorem iter_enum {a : Addr} {vs : List V} {ds : List D} (h : F a = some (.lst vs)) (r : Reps T K F ds vs) : IterD T K F (Ite K a) (enumD ds) := by
  have hl := r.length
  have hz : (enumD ds).length = ds.length := by simp [enumD]
  refine ⟨fun i H hi s => ?_, fun H s => ⟨vs, SqL.of (s _ _ h), by omega⟩, fun i H x H' hi s y F2 s1 s2 => ?_⟩
  · have hi' : i < vs.length := by omega
    exact ⟨vs, vs[i], SqL.of (s _ _ h), by simp [hi']⟩
  · obtain ⟨T0, u, rfl, hn, rfl, y⟩ := y
    obtain ⟨d, h1, h2⟩ := r.getV (y vs (SqL.of (s _ _ h)))
    refine ⟨.tup [.int (i : Int), d], upd F2 T0 _, ?_, .one hn, rep_pair s2 hn rep_int (h2.mono s1 _ _)⟩
    unfold enumD
    rw [List.getElem?_map, List.getElem?_zipIdx, h1]
    simp
theorem zip_len (xs ys : List D) : (zipD xs ys).length = min xs.length ys.length := by simp [zipD]
theorem zip_get {xs ys : List D} {i : Nat} {x y : D} (h1 : xs[i]? = some x) (h2 : ys[i]? = some y) : (zipD xs ys)[i]? = some (.tup [x, y]) := by
  unfold zipD
  rw [List.getElem?_map]
  have : (xs.zip ys)[i]? = some (x, y) := List.getElem?_zip_eq_some.mpr ⟨h1, h2⟩
  rw [this]; rfl
theorem iter_zipL {a b : Addr} {vs us : List V} {ds es : List D} (ha : F a = some (.lst vs)) (ra : Reps T K F ds vs) (hb : F b = some (.lst us)) (rb : Reps T K F es us) : IterD T K F (Itz K a b) (zipD ds es) := by
  have hl := ra.length
  have hm := rb.length
  have hz := zip_len ds es
  refine ⟨fun i H hi s => ?_, fun H s => ⟨vs, us, SqL.of (s _ _ ha), SqL.of (s _ _ hb), by omega⟩, fun i H x H' hi s y F2 s1 s2 => ?_⟩
  · have h1 : i < vs.length := by omega
    have h2 : i < us.length := by omega
    exact ⟨vs, us, vs[i], us[i], SqL.of (s _ _ ha), SqL.of (s _ _ hb), by simp [h1], by simp [h2]⟩
  · obtain ⟨T0, u, w, rfl, hn, rfl, y1, y2⟩ := y
    obtain ⟨d, h1, h2⟩ := ra.getV (y1 vs (SqL.of (s _ _ ha)))
    obtain ⟨e, h3, h4⟩ := rb.getV (y2 us (SqL.of (s _ _ hb)))
    exact ⟨.tup [d, e], upd F2 T0 _, zip_get h1 h3, .one hn, rep_pair s2 hn (h2.mono s1 _ _) (h4.mono s1 _ _)⟩
theorem iter_zipT {a b : Addr} {vs us : List V} {ds es : List D} (ha : SqT K F a vs) (ra : Reps T K F ds vs) (hb : SqT K F b us) (rb : Reps T K F es us) : IterD T K F (RZ.ItzT K a b) (zipD ds es) := by
  have hl := ra.length
  have hm := rb.length
  have hz := zip_len ds es
  refine ⟨fun i H hi s => ?_, fun H s => ⟨vs, us, same_sqT s ha, same_sqT s hb, by omega⟩, fun i H x H' hi s y F2 s1 s2 => ?_⟩
  · have h1 : i < vs.length := by omega
    have h2 : i < us.length := by omega
    exact ⟨vs, us, vs[i], us[i], same_sqT s ha, same_sqT s hb, by simp [h1], by simp [h2]⟩
  · obtain ⟨T0, u, w, rfl, hn, rfl, y1, y2⟩ := y
    obtain ⟨d, h1, h2⟩ := ra.getV (y1 vs (same_sqT s ha))
    obtain ⟨e, h3, h4⟩ := rb.getV (y2 us (same_sqT s hb))
    exact ⟨.tup [d, e], upd F2 T0 _, zip_get h1 h3, .one hn, rep_pair s2 hn (h2.mono s1 _ _) (h4.mono s1 _ _)⟩
variable {tg e e2 : Expr} {fe : EM} {fa : AM} {p pos : Pos}
theorem di_seq (he : DE T X P W e fe) : DI T X P W tg e (iSeq fe) := by
  obtain ⟨t, pe, se⟩ := he.ex
  refine ⟨_, pi_any pe, fun env o env' h F g σ H R A post => ?_⟩
  refine soundIE_bind se h A post.exx fun x e1 h1 v F1 g1 H1 G1 A1 R1 => ?_
  obtain ⟨xs, hx, rfl, rfl⟩ := liftI_eq h1
  cases x with
  | lst ys =>
    simp only [seqItems, Option.some.injEq] at hx
    subst hx
    simp only [Rep] at R1
    obtain ⟨a, vs, rfl, h2, h3⟩ := R1
    exact .inl ⟨a, rfl, ⟨vs, SqL.of (A1.sub _ _ h2)⟩, post _ F1 g1 H1 G1 A1 (iter_list h2 h3)⟩
  | tup ys =>
    simp only [seqItems, Option.some.injEq] at hx
    subst hx
    simp only [Rep] at R1
    obtain ⟨a, vs, rfl, h2, h3⟩ := R1
    exact .inr (.inl ⟨a, rfl, ⟨vs, same_sqT A1.sub h2.sq⟩, post _ F1 g1 H1 G1 A1 (iter_tup h2.sq h3)⟩)
  | str ys =>
    simp only [seqItems, Option.some.injEq] at hx
    subst hx
    simp only [Rep] at R1
    obtain ⟨rfl, h3⟩ := R1
    exact .inr (.inr ⟨_, rfl, post _ F1 g1 H1 G1 A1 (iter_str h3)⟩)
  | _ => simp [seqItems] at hx
theorem big62_ok {i : Int} (h : big62 i = true) : -(2 ^ 62) ≤ i ∧ i < 2 ^ 62 := by
  unfold big62 at h
  obtain ⟨h1, h2⟩ := Bool.and_eq_true_iff.mp h
  have h1 := geI_iff.mp h1
  have h2 := ltI_iff.mp h2
  omega
theorem di_range1 (hg : Gl X "range") (hm : X.mg "range" = none) (ha : DA T X P W [e] fa) (hs : starEach [e] X.env = [(false, eval e X.env)]) : DI T X P W tg (.Call (.Name "range" p) [e] [] pos) (iRange1 fa) := by
  obtain ⟨t, pa, sa⟩ := ha.ex
  refine ⟨_, pi_range1 hg hm pa hs, fun env o env' h F g σ H R A post => ?_⟩
  refine soundIA_bind sa h A post.exx fun ds e1 h1 vs F1 g1 H1 G1 A1 R1 => ?_
  obtain ⟨xs, hx, rfl, rfl⟩ := liftI_eq h1
  split at hx
  · rename_i j
    split at hx
    · rename_i hb
      simp only [Option.some.injEq] at hx
      subst hx
      obtain ⟨v, rfl, r⟩ := reps1 (ds := []) R1
      simp only [Rep] at r
      subst r
      obtain ⟨b1, b2⟩ := big62_ok hb
      exact ⟨j, rfl, b1, b2, post _ F1 g1 H1 G1 A1 iter_range⟩
    · cases hx
  · cases hx
theorem reps2 {a b : D} {vs : List V} (h : Reps T K F [a, b] vs) : ∃ u v, vs = [u, v] ∧ Rep T K F a u ∧ Rep T K F b v := by
  obtain ⟨u, r, rfl, h2, h3⟩ := h.uncons
  obtain ⟨v, rfl, h4⟩ := reps1 (ds := []) h3
  exact ⟨u, v, rfl, h2, h4⟩
theorem di_range2 (hg : Gl X "range") (hm : X.mg "range" = none) (ha : DA T X P W [e, e2] fa) (hs : starEach [e, e2] X.env = [(false, eval e X.env), (false, eval e2 X.env)]) (hs2 : starEach [e2] X.env = [(false, eval e2 X.env)]) : DI T X P W tg (.Call (.Name "range" p) [e, e2] [] pos) (iRange2 fa) := by
  obtain ⟨t, pa, sa⟩ := ha.ex
  refine ⟨_, pi_range2 hg hm pa hs hs2, fun env o env' h F g σ H R A post => ?_⟩
  refine soundIA_bind sa h A post.exx fun ds e1 h1 vs F1 g1 H1 G1 A1 R1 => ?_
  obtain ⟨xs, hx, rfl, rfl⟩ := liftI_eq h1
  split at hx
  · rename_i i j
    split at hx
    · rename_i hb
      obtain ⟨hb1, hb2⟩ := Bool.and_eq_true_iff.mp hb
      simp only [Option.some.injEq] at hx
      subst hx
      obtain ⟨u, v, rfl, r1, r2⟩ := reps2 R1
      simp only [Rep] at r1 r2
      subst r1
      subst r2
      obtain ⟨b1, b2⟩ := big62_ok hb1
      obtain ⟨b3, b4⟩ := big62_ok hb2
      exact ⟨i, j, rfl, ⟨b1, b2, b3, b4⟩, post _ F1 g1 H1 G1 A1 iter_range⟩
    · cases hx
  · cases hx
theorem di_zip {elts : List Expr} {kk : Nat} {tpos : Pos} (hg : Gl X "zip") (hm : X.mg "zip" = none) (ha : DA T X P W [e, e2] fa) (hs : starEach [e, e2] X.env = (false, eval e X.env) :: starEach [e2] X.env) (hpl : (backTo pos (starEach [e2] X.env)).any (·.1) = false) :
    DI T X P W (.Tuple elts kk tpos) (.Call (.Name "zip" p) [e, e2] [] pos) (iZipD fa) := by
  obtain ⟨t, pa, sa⟩ := ha.ex
  refine ⟨_, RZ.pi_zipA hg hm pa hs hpl, fun env o env' h F g σ H R A post => ?_⟩
  refine soundIA_bind sa h A post.exx fun ds e1 h1 vs F1 g1 H1 G1 A1 R1 => ?_
  obtain ⟨xs, hx, rfl, rfl⟩ := liftI_eq h1
  split at hx
  · simp only [Option.some.injEq] at hx
    subst hx
    obtain ⟨u, v, rfl, r1, r2⟩ := reps2 R1
    simp only [Rep] at r1 r2
    obtain ⟨a, vs, rfl, h2, h3⟩ := r1
    obtain ⟨b, us, rfl, h4, h5⟩ := r2
    exact ⟨a, b, vs, us, rfl, .inl ⟨SqL.of (A1.sub _ _ h2), SqL.of (A1.sub _ _ h4), post _ F1 g1 H1 G1 A1 (iter_zipL h2 h3 h4 h5)⟩⟩
  · simp only [Option.some.injEq] at hx
    subst hx
    obtain ⟨u, v, rfl, r1, r2⟩ := reps2 R1
    simp only [Rep] at r1 r2
    obtain ⟨a, vs, rfl, h2, h3⟩ := r1
    obtain ⟨b, us, rfl, h4, h5⟩ := r2
    exact ⟨a, b, vs, us, rfl, .inr ⟨same_sqT A1.sub h2.sq, same_sqT A1.sub h4.sq, post _ F1 g1 H1 G1 A1 (iter_zipT h2.sq h3 h4.sq h5)⟩⟩
  · cases hx
/-! ### for -/
def forM (gm : GM) (body : SM) : List D → SM
  | [] => nxS
  | d :: ds => fun env => match gm d env with
    | none => none
    | some e1 => (match body e1 with
      | some (.nx, e2) => forM gm body ds e2
      | some (.ct, e2) => forM gm body ds e2
      | some (.bk, e2) => some (.nx, e2)
      | some (.rt d, e2) => some (.rt d, e2)
      | some (.ex c fs, e2) => some (.ex c fs, e2)
      | none => none)
def forS (im : IM) (gm : GM) (body : SM) : SM := fun env => match im env with
  | some (.ok xs, e) => forM gm body xs e
  | some (.ex c fs, e) => some (.ex c fs, e)
  | none => none
theorem ds_for {ws : List Nat} {body : List Stmt} {im : IM} {gm : GM} {fb : SM} {iter : Expr} (hp : PassesOwn (model X.prog X.w) X.A X.env X.xe) (hc : X.calm = true) (hi : DI T X P W tg iter im) (hg : DG T X P tg ws gm) (hb : DSs T X P W body fb)
    (hs : ∀ x, foldedSetIterable iter X.env x = pure x) : DS1 T X P W (.For tg iter body [] pos) (forS im gm fb) := by
  obtain ⟨ti, pi, si⟩ := hi.ex
  obtain ⟨tgt, pg, sg⟩ := hg.ex
  obtain ⟨tb, pb, sb⟩ := hb.ex
  refine ⟨_, ps_for hp hc pi pg pb hs, fun env o env' h F g σ H Z A post => ?_⟩
  unfold forS at h
  cases e1 : im env with
  | none => rw [e1] at h; cases h
  | some q =>
    obtain ⟨ri, e2⟩ := q
    rw [e1] at h
    refine si env ri e2 e1 F g σ H _ A ?_
    cases ri with
    | ex c fs =>
      simp only [Option.some.injEq, Prod.mk.injEq] at h
      obtain ⟨rfl, rfl⟩ := h
      exact post σ
    | ok xs =>
      simp only at h
      intro J F1 g1 H1 G1 A1 IT
      refine ⟨fun i m σ' H' => m = xs.length - i ∧ i ≤ xs.length ∧ ∃ env2 F2 g2, Grow F1 g1 H1 F2 g2 H' ∧ Abs T X.K P F2 g2 env2 σ' H' ∧ forM gm fb (xs.drop i) env2 = some (o, env'),
        ⟨xs.length, by simp, Nat.zero_le _, e2, F1, g1, Grow.refl _ _ _, A1, by simpa using h⟩, ?_⟩
      rintro i m σ2 H2 ⟨rfl, hi, env2, F2, g2, G2, A2, hf⟩
      have sF : Same F1 H2 := G2.sub.trans A2.sub
      by_cases hlt : i < xs.length
      · obtain ⟨d, rest, hd, hrest⟩ : ∃ d rest, xs.drop i = d :: rest ∧ xs.drop (i + 1) = rest := by
          refine ⟨xs[i], xs.drop (i + 1), ?_, rfl⟩
          exact List.drop_eq_getElem_cons hlt
        have hdi : xs[i]? = some d := by
          have : (xs.drop i)[0]? = some d := by rw [hd]; rfl
          simpa using this
        rw [hd] at hf
        unfold forM at hf
        refine .inr ⟨IT.goes i H2 hlt sF, fun σ' H' => ∃ env3 F3 g3, Grow F1 g1 H1 F3 g3 H' ∧ Abs T X.K P F3 g3 env3 σ' H' ∧ forM gm fb (xs.drop (i + 1)) env3 = some (o, env'), fun σ' H' ⟨env3, F3, g3, G3, A3, h3⟩ => ⟨xs.length - (i + 1), by omega, rfl, hlt, env3, F3, g3, G3, A3, h3⟩, fun x H' y => ?_⟩
        obtain ⟨d', F3, hd', N3, R3⟩ := IT.yld i H2 x H' hlt sF y F2 G2.sub A2.sub
        rw [hdi] at hd'
        simp only [Option.some.injEq] at hd'
        subst hd'
        have A3 := N3.abs A2
        have G3 := G2.trans (N3.grow A2)
        cases eg : gm d env2 with
        | none => rw [eg] at hf; cases hf
        | some env3 =>
          rw [eg] at hf
          refine sg d env2 env3 eg F3 g2 σ2 H' x _ A3 R3 fun g4 σ4 hg4 A4 hl4 hz4 => ?_
          have G4 : Grow F1 g1 H1 F3 g4 H' := G3.trans (grow_less fun i a h => ⟨i, hg4 i a h⟩)
          simp only at hf
          cases eb : fb env3 with
          | none => rw [eb] at hf; cases hf
          | some q =>
            obtain ⟨ob, env4⟩ := q
            rw [eb] at hf
            refine sb env3 ob env4 eb F3 g4 σ4 H' _ A4 ?_
            cases ob with
            | nx => exact fun F5 g5 σ5 H5 G5 A5 => ⟨env4, F5, g5, G4.trans G5, A5, by rw [hrest]; exact hf⟩
            | ct => exact fun F5 g5 σ5 H5 G5 A5 => ⟨env4, F5, g5, G4.trans G5, A5, by rw [hrest]; exact hf⟩
            | bk =>
              simp only [Option.some.injEq, Prod.mk.injEq] at hf
              obtain ⟨rfl, rfl⟩ := hf
              exact fun F5 g5 σ5 H5 G5 A5 => post F5 g5 σ5 H5 ((G1.trans G4).trans G5) A5
            | rt d =>
              simp only [Option.some.injEq, Prod.mk.injEq] at hf
              obtain ⟨rfl, rfl⟩ := hf
              exact (PostS.grow (Z := Z) post (G1.trans G4))
            | ex c fs =>
              simp only [Option.some.injEq, Prod.mk.injEq] at hf
              obtain ⟨rfl, rfl⟩ := hf
              exact fun σ5 => ExE.grow (post σ5) (G1.trans G4)
      · have ei : i = xs.length := by omega
        subst ei
        rw [List.drop_length] at hf
        unfold forM nxS at hf
        simp only [Option.some.injEq, Prod.mk.injEq] at hf
        obtain ⟨rfl, rfl⟩ := hf
        exact .inl ⟨IT.stops H2 sF, post F2 g2 σ2 H2 (G1.trans G2) A2⟩
end
end DS
namespace DS
open PySem PySem.Spec L2
/-! ### list comprehensions -/
def wipeD (env : DEnv) : List Nat → DEnv
  | [] => env
  | v :: vs => (wipeD env vs).set v none
def slotOf (env : DEnv) (v : Nat) : Option D := match env[v]? with
  | some o => o
  | none => none
def restD (e0 env : DEnv) : List Nat → DEnv
  | [] => env
  | v :: vs => (restD e0 env vs).set v (slotOf e0 v)
/-- the slots vs hold plain data or nothing -/
def plainSl (env : DEnv) (vs : List Nat) : Bool := vs.all fun v => match slotOf env v with
  | some d => d.sh
  | none => true
def lcM (gm : GM) (tm : BM) (em : EM) (vs : List Nat) : List D → DEnv → Option (List D × DEnv)
  | [], env => some ([], env)
  | d :: ds, env => match gm d (wipeD env vs) with
    | none => none
    | some e1 => (match tm e1 with
      | some (.ok true, e2) => (match em e2 with
        | some (.ok y, e3) => (match lcM gm tm em vs ds e3 with
          | some (r, e4) => some (y :: r, e4)
          | none => none)
        | _ => none)
      | some (.ok false, e2) => lcM gm tm em vs ds e2
      | _ => none)
def dLc (im : IM) (gm : GM) (tm : BM) (em : EM) (vs : List Nat) : EM := fun env => match im env with
  | some (.ok xs, e1) => if (plainSl e1 vs && decide (xs.length ≤ 16777216)) = true then (match lcM gm tm em vs xs e1 with
    | some (ys, e2) => some (.ok (.lst ys), restD e1 e2 vs)
    | none => none) else none
  | some (.ex c fs, e) => some (.ex c fs, e)
  | none => none
section
variable {T : Tb} {X : Cx} {P : Nat → Option V} {W : WX} {K : PySem.W.Frag} {F F' F1 H H' H1 : Hp} {g g1 : Nat → List Addr} {env env' : DEnv} {σ σ' : L2.St}
theorem wipeD_length (env : DEnv) : ∀ vs : List Nat, (wipeD env vs).length = env.length
  | [] => rfl
  | v :: vs => by unfold wipeD; rw [List.length_set, wipeD_length env vs]
theorem wipeD_out {j : Nat} : ∀ {vs : List Nat}, j ∉ vs → (wipeD env vs)[j]? = env[j]?
  | [], _ => rfl
  | v :: vs, h => by
    unfold wipeD
    rw [List.getElem?_set_ne (by intro e; exact h (by simp [e])), wipeD_out fun z => h (by simp [z])]
theorem wipeD_in {j : Nat} : ∀ {vs : List Nat}, j ∈ vs → ∀ d, (wipeD env vs)[j]? ≠ some (some d)
  | v :: vs, h, d, e => by
    unfold wipeD at e
    by_cases q : v = j
    · subst q
      by_cases hl : v < (wipeD env vs).length
      · rw [List.getElem?_set_self hl] at e; cases e
      · rw [List.getElem?_eq_none (by simpa using hl)] at e; cases e
    · rw [List.getElem?_set_ne q] at e
      rcases List.mem_cons.mp h with z | z
      · exact q z.symm
      · exact wipeD_in z d e
theorem wipe_out {j : Nat} : ∀ {vs : List Nat}, j ∉ vs → (wipe σ vs)[j]? = σ[j]?
  | [], _ => rfl
  | v :: vs, h => by
    unfold wipe
    rw [List.getElem?_set_ne (by intro e; exact h (by simp [e])), wipe_out fun z => h (by simp [z])]
theorem wipe_in {j : Nat} : ∀ {vs : List Nat}, j ∈ vs → j < σ.length → (wipe σ vs)[j]? = some none
  | v :: vs, h, hl => by
    unfold wipe
    by_cases q : v = j
    · subst q
      rw [List.getElem?_set_self (by rw [wipe_length]; exact hl)]
    · rw [List.getElem?_set_ne q]
      rcases List.mem_cons.mp h with z | z
      · exact absurd z.symm q
      · exact wipe_in z hl
theorem wipe_eq {vs : List Nat} (hl : σ'.length = σ.length) (h : ∀ j, j ∉ vs → σ'[j]? = σ[j]?) : wipe σ' vs = wipe σ vs := by
  apply List.ext_getElem?
  intro j
  by_cases q : j ∈ vs
  · by_cases z : j < σ.length
    · rw [wipe_in q (by omega), wipe_in q z]
    · rw [List.getElem?_eq_none (by rw [wipe_length]; omega), List.getElem?_eq_none (by rw [wipe_length]; omega)]
  · rw [wipe_out q, wipe_out q, h j q]
theorem wipe_wipe {vs : List Nat} : wipe (wipe σ vs) vs = wipe σ vs := wipe_eq (wipe_length _ _) fun j hj => wipe_out hj
theorem restD_length (e0 env : DEnv) : ∀ vs : List Nat, (restD e0 env vs).length = env.length
  | [] => rfl
  | v :: vs => by unfold restD; rw [List.length_set, restD_length e0 env vs]
theorem restD_out {e0 : DEnv} {j : Nat} : ∀ {vs : List Nat}, j ∉ vs → (restD e0 env vs)[j]? = env[j]?
  | [], _ => rfl
  | v :: vs, h => by
    unfold restD
    rw [List.getElem?_set_ne (by intro e; exact h (by simp [e])), restD_out fun z => h (by simp [z])]
theorem restD_in {e0 : DEnv} {j : Nat} : ∀ {vs : List Nat}, j ∈ vs → j < env.length → (restD e0 env vs)[j]? = some (slotOf e0 j)
  | v :: vs, h, hl => by
    unfold restD
    by_cases q : v = j
    · subst q
      rw [List.getElem?_set_self (by rw [restD_length]; exact hl)]
    · rw [List.getElem?_set_ne q]
      rcases List.mem_cons.mp h with z | z
      · exact absurd z.symm q
      · exact restD_in z hl
theorem Abs.wipe (A : Abs T K P F g env σ H) (vs : List Nat) : Abs T K P F (fun j => if j ∈ vs then [] else g j) (wipeD env vs) (L2.wipe σ vs) H := by
  refine ⟨A.sub, by rw [wipeD_length, wipe_length]; exact A.len, fun i d e => ?_, fun i j x h1 h2 => ?_, fun i h => ?_⟩
  · by_cases q : i ∈ vs
    · exact absurd e (wipeD_in q d)
    · rw [wipeD_out q] at e
      rw [wipe_out q]
      simp only [if_neg q]
      exact A.at_ i d e
  · split at h1
    · cases h1
    · split at h2
      · cases h2
      · exact A.dis i j x h1 h2
  · by_cases q : i ∈ vs
    · simp [q]
    · simp only [if_neg q]
      refine A.out i fun d e => h d ?_
      rw [wipeD_out q]; exact e
theorem grow_wipe {vs : List Nat} : Grow F g H F (fun j => if j ∈ vs then [] else g j) H := grow_less fun i a h => by
  split at h
  · cases h
  · exact ⟨i, h⟩
/-- an object that neither F nor the slots know is changed -/
theorem Abs.side (A : Abs T K P F g env σ H) {p : Addr} {o : HO} (hf : F p = none) (hg : ∀ i, p ∉ g i) : Abs T K P F g env σ (upd H p o) := by
  refine ⟨fun b u e => by rw [upd_ne (ne_of_none e hf)]; exact A.sub _ _ e, A.len, fun i d e => ?_, A.dis, A.out⟩
  obtain ⟨v, h1, h2⟩ := A.at_ i d e
  refine ⟨v, h1, slotO_keep (Same.refl _) h2 (fun a ha u q => ?_) fun a ha => (A.inn i a ha).1⟩
  rw [upd_ne (fun z => hg i (by rw [← z]; exact ha))]; exact q
theorem grow_side {F2 H2 : Hp} {g2 : Nat → List Addr} (G : Grow F g H F2 g2 H2) {p : Addr} {o : HO} (hp : H p = none) : Grow F g H F2 g2 (upd H2 p o) :=
  ⟨G.sub, fun a u h e => by rw [upd_ne (ne_of_none e hp)]; exact G.keep a u h e, G.fr, G.new⟩
/-- .. is laid into F -/
theorem Abs.freeze (A : Abs T K P F g env σ H) {p : Addr} {o : HO} (hh : H p = some o) (hf : F p = none) (hg : ∀ i, p ∉ g i) : Abs T K P (upd F p o) g env σ H := by
  have sF : Same F (upd F p o) := fun b u e => by rw [upd_ne (ne_of_none e hf)]; exact e
  refine ⟨fun b u e => ?_, A.len, fun i d e => ?_, A.dis, A.out⟩
  · by_cases q : b = p
    · subst q; rw [upd_same] at e; cases e; exact hh
    · rw [upd_ne q] at e; exact A.sub _ _ e
  · obtain ⟨v, h1, h2⟩ := A.at_ i d e
    refine ⟨v, h1, slotO_keep sF h2 (fun a ha u q => q) fun a ha => ?_⟩
    rw [upd_ne (fun z => hg i (by rw [← z]; exact ha))]; exact (A.inn i a ha).1
theorem grow_freeze {F2 H2 : Hp} {g2 : Nat → List Addr} (G : Grow F g H F2 g2 H2) {p : Addr} {o : HO} (hf : F2 p = none) (hp : (∃ j, p ∈ g j) ∨ H p = none) : Grow F g H (upd F2 p o) g2 H2 := by
  refine ⟨fun b u e => by rw [upd_ne (ne_of_none (G.sub _ _ e) hf)]; exact G.sub _ _ e, G.keep, fun a u h e q => ?_, G.new⟩
  have ne : a ≠ p := fun z => by
    rcases hp with ⟨j, hj⟩ | hp
    · exact h j (by rw [z]; exact hj)
    · rw [z, hp] at e; cases e
  rw [upd_ne ne]; exact G.fr a u h e q
theorem Abs.rest {e0 : DEnv} {F0 H0 : Hp} {g0 : Nat → List Addr} {vs : List Nat} (A0 : Abs T K P F0 g0 e0 σ H0) (s0 : Same F0 F) (pl : plainSl e0 vs = true) (A : Abs T K P F g (wipeD env vs) (L2.wipe σ vs) H) (hg : ∀ j ∈ vs, g j = []) : Abs T K P F g (restD e0 env vs) σ H := by
  have hl : env.length = σ.length := by have := A.len; rw [wipeD_length, wipe_length] at this; exact this
  refine ⟨A.sub, by rw [restD_length]; exact hl, fun i d e => ?_, A.dis, fun i h => ?_⟩
  · by_cases q : i ∈ vs
    · have hi : i < env.length := by
        have := (List.getElem?_eq_some_iff.mp e).1
        rwa [restD_length] at this
      rw [restD_in q hi] at e
      simp only [Option.some.injEq] at e
      have e0i : e0[i]? = some (some d) := by
        unfold slotOf at e
        split at e
        · rename_i o eo; rw [eo, e]
        · cases e
      obtain ⟨v, h1, h2⟩ := A0.at_ i d e0i
      have hs : d.sh = true := by
        have := List.all_eq_true.mp pl i q
        rw [e] at this
        exact this
      refine ⟨v, h1, ?_⟩
      rw [hg i q]
      exact (slotO_sh hs).mpr ⟨rfl, ((slotO_sh hs).mp h2).2.mono s0 _ _⟩
    · rw [restD_out q] at e
      obtain ⟨v, h1, h2⟩ := A.at_ i d (by rw [wipeD_out q]; exact e)
      rw [wipe_out q] at h1
      exact ⟨v, h1, h2⟩
  · by_cases q : i ∈ vs
    · exact hg i q
    · refine A.out i fun d e => h d ?_
      rw [wipeD_out q] at e
      rw [restD_out q]; exact e
def W0 : WX := fun _ _ _ _ => False
/-- the pieces within: what they ask of exceptions is nothing -/
theorem sound_lc {wi : TI} {tg : TG} {tt : TT} {te : TE} {im : IM} {gm : GM} {tm : BM} {em : EM} {ws vs : List Nat} (si : SoundI T K P W im wi) (sg : SoundG T K P ws gm tg) (st : SoundB T K P W0 tm tt) (se : SoundE T K P W0 em te) (hw : ∀ i ∈ ws, i ∈ vs) :
    SoundE T K P W (dLc im gm tm em vs) (tLc wi tg tt te vs) := by
  intro env o env' h F g σ H Q A post
  unfold dLc at h
  cases e1 : im env with
  | none => rw [e1] at h; cases h
  | some q =>
    obtain ⟨ri, e2⟩ := q
    rw [e1] at h
    refine si env ri e2 e1 F g σ H _ A ?_
    cases ri with
    | ex c fs =>
      simp only [Option.some.injEq, Prod.mk.injEq] at h
      obtain ⟨rfl, rfl⟩ := h
      exact post
    | ok xs =>
      simp only at h
      intro J F1 g1 H1 G1 A1 IT Dn hD
      split at h
      · rename_i hpl
        obtain ⟨pl, hlen⟩ := Bool.and_eq_true_iff.mp hpl
        have hlen := of_decide_eq_true hlen
        cases eL : lcM gm tm em vs xs e2 with
        | none => rw [eL] at h; cases h
        | some qq =>
          obtain ⟨ys, eN⟩ := qq
          rw [eL] at h
          simp only [Option.some.injEq, Prod.mk.injEq] at h
          obtain ⟨rfl, rfl⟩ := h
          have fD : F1 Dn = none := A1.sub.free hD
          have gD : ∀ i, Dn ∉ g1 i := fun i hi => by
            obtain ⟨_, u, e⟩ := A1.inn i _ hi
            rw [hD] at e; cases e
          refine ⟨fun i m H' => m = xs.length - i ∧ i ≤ xs.length ∧ ∃ env2 F2 g2 acc accV rest, Grow F1 g1 H1 F2 g2 H' ∧ Abs T K P F2 g2 (wipeD env2 vs) (L2.wipe σ vs) H' ∧ (∀ j ∈ vs, g2 j = []) ∧ H' Dn = some (.lst accV) ∧ F2 Dn = none ∧ (∀ j, Dn ∉ g2 j) ∧
            Reps T K F2 acc accV ∧ acc.length ≤ i ∧ lcM gm tm em vs (xs.drop i) env2 = some (rest, eN) ∧ acc ++ rest = ys, ⟨xs.length, by simp, Nat.zero_le _, e2, F1, fun j => if j ∈ vs then [] else g1 j, [], [], ys, ?_, ?_, ?_, upd_same, fD, ?_, Reps.nil, Nat.le_refl _, by simpa using eL, rfl⟩, ?_⟩
          · exact grow_side grow_wipe hD
          · refine (A1.wipe vs).side fD fun i hi => ?_
            split at hi
            · cases hi
            · exact gD i hi
          · intro j hj; simp [hj]
          · intro j hj
            have hj : Dn ∈ (if j ∈ vs then [] else g1 j) := hj
            split at hj
            · cases hj
            · exact gD j hj
          rintro i m H2 ⟨rfl, hi, env2, F2, g2, acc, accV, rest, G2, A2, v2, d2, f2, n2, r2, l2, hf, hys⟩
          have sF : Same F1 H2 := G2.sub.trans A2.sub
          by_cases hlt : i < xs.length
          · obtain ⟨d, tl, hd, htl⟩ : ∃ d tl, xs.drop i = d :: tl ∧ xs.drop (i + 1) = tl := ⟨xs[i], xs.drop (i + 1), List.drop_eq_getElem_cons hlt, rfl⟩
            have hdi : xs[i]? = some d := by
              have : (xs.drop i)[0]? = some d := by rw [hd]; rfl
              simpa using this
            rw [hd] at hf
            unfold lcM at hf
            refine .inr ⟨IT.goes i H2 hlt sF, fun H' => ∃ env2 F2 g2 acc accV rest, Grow F1 g1 H1 F2 g2 H' ∧ Abs T K P F2 g2 (wipeD env2 vs) (L2.wipe σ vs) H' ∧ (∀ j ∈ vs, g2 j = []) ∧ H' Dn = some (.lst accV) ∧ F2 Dn = none ∧ (∀ j, Dn ∉ g2 j) ∧
              Reps T K F2 acc accV ∧ acc.length ≤ i + 1 ∧ lcM gm tm em vs (xs.drop (i + 1)) env2 = some (rest, eN) ∧ acc ++ rest = ys, fun H' p => ⟨xs.length - (i + 1), by omega, rfl, hlt, p⟩, fun x H' y => ?_⟩
            obtain ⟨d', F3, hd', N3, R3⟩ := IT.yld i H2 x H' hlt sF y F2 G2.sub A2.sub
            rw [hdi] at hd'
            simp only [Option.some.injEq] at hd'
            subst hd'
            have A3 := N3.abs A2
            have NG := N3.grow A2
            have G3 := G2.trans NG
            have d3 : H' Dn = some (.lst accV) := NG.keep _ _ n2 d2
            have f3 : F3 Dn = none := NG.fresh _ _ n2 d2 f2
            cases eg : gm d (wipeD env2 vs) with
            | none => rw [eg] at hf; cases hf
            | some env3 =>
              rw [eg] at hf
              refine sg d _ env3 eg F3 g2 _ H' x _ A3 R3 fun g4 σ4 hg4 A4 hl4 hz4 => ?_
              have n4 : ∀ j, Dn ∉ g4 j := fun j hj => n2 j (hg4 j _ hj)
              have G4 : Grow F1 g1 H1 F3 g4 H' := G3.trans (grow_less fun i a h => ⟨i, hg4 i a h⟩)
              have wq : L2.wipe σ4 vs = L2.wipe (L2.wipe σ vs) vs := wipe_eq hl4 fun j hj => hz4 j fun z => hj (hw j z)
              have wq' : L2.wipe σ4 vs = L2.wipe σ vs := wq.trans wipe_wipe
              refine ⟨wq', ?_⟩
              simp only at hf
              cases et : tm env3 with
              | none => rw [et] at hf; cases hf
              | some q =>
                obtain ⟨ob, env4⟩ := q
                rw [et] at hf
                refine st env3 ob env4 et F3 g4 σ4 H' _ A4 ?_
                cases ob with
                | ex c fs => cases hf
                | ok k =>
                  intro F5 g5 H5 G5 A5
                  have d5 : H5 Dn = some (.lst accV) := G5.keep _ _ n4 d3
                  have f5 : F5 Dn = none := G5.fresh _ _ n4 d3 f3
                  have n5 : ∀ j, Dn ∉ g5 j := fun j hj => by
                    rcases G5.new j _ hj with ⟨i, q⟩ | q
                    · exact n4 i q
                    · rw [d3] at q; cases q
                  cases k with
                  | false =>
                    rw [if_neg Bool.false_ne_true]
                    have A5' := A5.wipe vs
                    rw [wq'] at A5'
                    refine ⟨env4, F5, _, acc, accV, rest, (G4.trans G5).trans grow_wipe, A5', fun j hj => by simp [hj], d5, f5, fun j hj => ?_, Reps.mono (N3.up A2.sub |>.trans G5.sub) _ _ r2, by omega, by rw [htl]; exact hf, hys⟩
                    have hj : Dn ∈ (if j ∈ vs then [] else g5 j) := hj
                    split at hj
                    · cases hj
                    · exact n5 j hj
                  | true =>
                    rw [if_pos rfl]
                    simp only at hf
                    cases ee : em env4 with
                    | none => rw [ee] at hf; cases hf
                    | some q =>
                      obtain ⟨oe, env5⟩ := q
                      rw [ee] at hf
                      refine se env4 oe env5 ee F5 g5 σ4 H5 _ A5 ?_
                      cases oe with
                      | ex c fs => cases hf
                      | ok y =>
                        intro vy F6 g6 H6 G6 A6 R6
                        simp only at hf
                        cases er : lcM gm tm em vs tl env5 with
                        | none => rw [er] at hf; cases hf
                        | some q =>
                          obtain ⟨r', e6⟩ := q
                          rw [er] at hf
                          simp only [Option.some.injEq, Prod.mk.injEq] at hf
                          obtain ⟨rfl, rfl⟩ := hf
                          have d6 : H6 Dn = some (.lst accV) := G6.keep _ _ n5 d5
                          have f6 : F6 Dn = none := G6.fresh _ _ n5 d5 f5
                          have n6 : ∀ j, Dn ∉ g6 j := fun j hj => by
                            rcases G6.new j _ hj with ⟨i, q⟩ | q
                            · exact n5 i q
                            · rw [d5] at q; cases q
                          refine ⟨accV, d6, by rw [← r2.length, lim_eq]; omega, ?_⟩
                          have A6' := A6.wipe vs
                          rw [wq'] at A6'
                          have n6' : ∀ j, Dn ∉ (if j ∈ vs then [] else g6 j) := fun j hj => by
                            split at hj
                            · cases hj
                            · exact n6 j hj
                          refine ⟨env5, F6, _, acc ++ [y], accV ++ [vy], r', grow_side (((G4.trans G5).trans G6).trans grow_wipe) hD, A6'.side f6 n6', fun j hj => by simp [hj], upd_same, f6, n6',
                            (Reps.mono ((N3.up A2.sub |>.trans G5.sub).trans G6.sub) _ _ r2).append (Reps.cons R6 Reps.nil), by simp; omega, by rw [htl]; exact er, by rw [List.append_assoc]; exact hys⟩
          · have ei : i = xs.length := by omega
            subst ei
            rw [List.drop_length] at hf
            unfold lcM at hf
            simp only [Option.some.injEq, Prod.mk.injEq] at hf
            obtain ⟨rfl, rfl⟩ := hf
            rw [List.append_nil] at hys
            subst hys
            refine .inl ⟨IT.stops H2 sF, ?_⟩
            have B := (Abs.rest A1 G2.sub pl A2 v2).freeze d2 f2 n2
            refine post _ _ g2 H2 (grow_freeze (G1.trans G2) f2 (G1.back (.inr hD))) B ?_
            simp only [Rep]
            exact ⟨Dn, accV, rfl, upd_same, Reps.mono (fun b u e => by rw [upd_ne (ne_of_none e f2)]; exact e) _ _ r2⟩
      · cases h
variable {elt tg iter : Expr} {ifs : List Expr} {scope : Scope} {own : List (Str × Nat)} {pos : Pos} {im : IM} {gm : GM} {tm : BM} {em : EM} {ws : List Nat}
/-- a comprehension's test -/
structure DTs (T : Tb) (X : Cx) (P : Nat → Option V) (W : WX) (es : List Expr) (f : BM) : Prop where
  ex : PTs X es (tOfB T X.K P W f)
theorem dts_nil : DTs T X P W [] (retB true) := ⟨⟨fun pins s σ H Q I h => by
  obtain ⟨env, r, env', F, g, h, A, post⟩ := h
  obtain ⟨rfl, rfl⟩ := retB_eq h
  exact (pts_nil (X := X)).run pins s σ H Q I (post F g H (Grow.refl _ _ _) A)⟩⟩
theorem dts_one {c : Expr} {bc : BM} (h : DT T X P W c bc) : DTs T X P W [c] bc := ⟨pts_one h.pt⟩
def tOfG (T : Tb) (K : PySem.W.Frag) (P : Nat → Option V) (ws : List Nat) (f : GM) : TG := fun v σ H Q => ∃ d env env' F g, f d env = some env' ∧ Abs T K P F g env σ H ∧ Rep T K F d v ∧ ∀ g' σ', (∀ i a, a ∈ g' i → a ∈ g i) → Abs T K P F g' env' σ' H → σ'.length = σ.length → (∀ j, j ∉ ws → σ'[j]? = σ[j]?) → Q σ' H
theorem sound_tOfG {f : GM} : SoundG T K P ws f (tOfG T K P ws f) := fun d env env' h F g σ H v Q A R q => ⟨d, env, env', F, g, h, A, R, q⟩
theorem DG.pg (h : DG T X P tg ws gm) : PG X tg (tOfG T X.K P ws gm) := by
  obtain ⟨t, p, s⟩ := h.ex
  refine ⟨fun pins st σ H v u Q I rv q => ?_⟩
  obtain ⟨d, env, env', F, g, h, A, R, q⟩ := q
  exact p.run pins st σ H v u Q I rv (s d env env' h F g σ H v Q A R q)
theorem de_lc (hc : X.calm = true) (hN : X.N.Nodup) (hi : DI T X P W tg iter im) (ok : BlkOk X.N X.env.scope scope own)
    (hg : ∀ (s : Shared) (H : Hp) (C : Addr) (cl : List (Str × Addr)) (fp : List Addr), DG T (X.blk s H scope (compEnvC scope cl C X.env) fp) P tg ws gm) (ht : ∀ (s : Shared) (H : Hp) (C : Addr) (cl : List (Str × Addr)) (fp : List Addr), DTs T (X.blk s H scope (compEnvC scope cl C X.env) fp) P W0 ifs tm)
    (he : ∀ (s : Shared) (H : Hp) (C : Addr) (cl : List (Str × Addr)) (fp : List Addr), DE T (X.blk s H scope (compEnvC scope cl C X.env) fp) P W0 elt em) (hw : ∀ i ∈ ws, i ∈ own.map (·.2)) (hs : ∀ x, foldedSetIterable iter X.env x = pure x) :
    DE T X P W (.ListComp elt [⟨tg, iter, ifs, 0⟩] scope pos) (dLc im gm tm em (own.map (·.2))) := by
  obtain ⟨ti, pi, si⟩ := hi.ex
  exact ⟨_, pe_lc hc hN pi ok (fun s H C cl fp => (hg s H C cl fp).pg) (fun s H C cl fp => (ht s H C cl fp).ex) (fun s H C cl fp => (he s H C cl fp).pe) hs, sound_lc si sound_tOfG (sound_tOfB tm) (sound_tOf em) hw⟩
/-- name = [..] -/
theorem ds_setLc {i : Nat} {y : Str} {py : Pos} {spos : Pos} (hc : X.calm = true) (hN : X.N.Nodup) (hy : X.N[i]? = some y) (hyl : X.env.scope.names.lookup y = some .local)
    (hsw : swapsWith (.ListComp elt [⟨tg, iter, ifs, 0⟩] scope pos) (some (.Name y py)) spos.line X.env = pure true) (hi : DI T X P W tg iter im) (ok : BlkOk X.N X.env.scope scope own)
    (hg : ∀ (s : Shared) (H : Hp) (C : Addr) (cl : List (Str × Addr)) (fp : List Addr), DG T (X.blk s H scope (compEnvC scope cl C X.env) fp) P tg ws gm) (ht : ∀ (s : Shared) (H : Hp) (C : Addr) (cl : List (Str × Addr)) (fp : List Addr), DTs T (X.blk s H scope (compEnvC scope cl C X.env) fp) P W0 ifs tm)
    (he : ∀ (s : Shared) (H : Hp) (C : Addr) (cl : List (Str × Addr)) (fp : List Addr), DE T (X.blk s H scope (compEnvC scope cl C X.env) fp) P W0 elt em) (hw : ∀ i ∈ ws, i ∈ own.map (·.2)) (hs : ∀ x, foldedSetIterable iter X.env x = pure x) :
    DS1 T X P W (.Assign [.Name y py] (.ListComp elt [⟨tg, iter, ifs, 0⟩] scope pos) spos) (setS i (dLc im gm tm em (own.map (·.2)))) := by
  obtain ⟨ti, pi, si⟩ := hi.ex
  exact ⟨_, ps_setLc hc hN hy hyl hsw pi ok (fun s H C cl fp => (hg s H C cl fp).pg) (fun s H C cl fp => (ht s H C cl fp).ex) (fun s H C cl fp => (he s H C cl fp).pe) hs, sound_set (sound_lc si sound_tOfG (sound_tOfB tm) (sound_tOf em) hw)⟩
end
end DS
namespace DS
open PySem PySem.Spec L2
/-! ### in, not in -/
section
variable {X : Cx}
def rInT (K : PySem.W.Frag) : R2 := fun x y H Q => ∃ d ds, Dp K H x d ∧ Dp K H y (.tuple ds) ∧ SeqAt.shaped d = true ∧ SeqAt.shaped (.tuple ds) = true ∧ Q (.bl (ds.any fun z => PyData.eqv z d)) H
theorem op_inT (hu : X.A.units + 65 < cLine) : OpR X (compareOp .In) (rInT X.K) := by
  intro pins s σ H x y v u Q I rx ry h
  obtain ⟨d, ds, hd, he, sd, se, q⟩ := h
  obtain ⟨as, r1⟩ := Dp.reads I d x v hd rx
  obtain ⟨bs, r2⟩ := Dp.reads I (.tuple ds) y u he ry
  exact SeqAt.in_tuple_reads r2 r1 (SeqAt.canLay_of_shaped se) (SeqAt.canLay_of_shaped sd) (PyProof.Rows.room_in_shaped sd hu) ⟨.bl _, H, I, rfl, q⟩
abbrev rSign : R2 := fun x y H Q => ∃ (c : Nat) (z : Str), x = .str ⟨#[c]⟩ ∧ y = .str z ∧ Q (.bl (decide (c ∈ z.cps.toList))) H
def rInAll (K : PySem.W.Frag) : R2 := fun x y H Q => rSign x y H Q ∨ (rInD K x y H Q ∨ rInT K x y H Q)
theorem op_inAll (hu : X.A.units + 65 < cLine) : OpR X (compareOp .In) (rInAll X.K) := OpR.or op_in_sign (OpR.or (op_inD hu) (op_inT hu))
end
def inD (x y : D) : Option Bool := match y with
  | .str z => (match x with
    | .str [c] => some (z.contains c)
    | _ => none)
  | .lst ys => if (okD 60 x && okD 60 (.lst ys)) = true then some (ys.any fun z => deq z x) else none
  | .tup ys => if (okD 60 x && okD 60 (.tup ys)) = true then some (ys.any fun z => deq z x) else none
  | _ => none
def oIn (x y : D) : Option D := (inD x y).map D.bl
section
variable {T : Tb} {K : PySem.W.Frag} {F F' H H' : Hp}
theorem any_eqv {n m : Nat} {x : D} (ox : okD m x = true) : ∀ {ys : List D}, ys.all (okD n) = true → ((toPs ys).any fun z => PyData.eqv z (toP x)) = ys.any fun z => deq z x
  | [], _ => rfl
  | y :: ys, o => by
    rw [List.all_cons, Bool.and_eq_true] at o
    rw [toPs, List.any_cons, List.any_cons, any_eqv ox o.2, eqv_deq n m y x o.1 ox]
theorem contains_mem (c : Nat) (z : List Nat) : z.contains c = decide (c ∈ z) := by
  cases h : z.contains c with
  | true => exact (decide_eq_true (by simpa using h)).symm
  | false => exact (decide_eq_false (by intro q; rw [List.contains_iff_mem.mpr q] at h; cases h)).symm
theorem s_in : OpS T K (rInAll K) oIn := by
  intro x y z e F H vx vy Q s rx ry q
  unfold oIn at e
  rw [Option.map_eq_some_iff] at e
  obtain ⟨b, e, rfl⟩ := e
  have q := q _ F H .refl rep_bl
  unfold inD at e
  split at e
  · split at e
    · simp only [Option.some.injEq] at e
      simp only [Rep] at rx ry
      refine .inl ⟨_, _, rx.1, ry.1, ?_⟩
      dsimp only
      rw [← contains_mem, e]
      exact q
    · cases e
  · rename_i ys
    split at e
    · rename_i o
      obtain ⟨o1, o2⟩ := Bool.and_eq_true_iff.mp o
      simp only [Option.some.injEq] at e
      have h1 := dp_of 60 x vx o1 (rx.mono s _ _)
      have h2 := dp_of 60 (.lst ys) vy o2 (ry.mono s _ _)
      refine .inr (.inl ⟨toP x, toPs ys, h1.1, by simpa [toP] using h2.1, shaped_of o1 rx, by simpa [toP] using shaped_of o2 ry, ?_⟩)
      rw [any_eqv (n := 59) (m := 60) o1 o2, e]
      exact q
    · cases e
  · rename_i ys
    split at e
    · rename_i o
      obtain ⟨o1, o2⟩ := Bool.and_eq_true_iff.mp o
      simp only [Option.some.injEq] at e
      have h1 := dp_of 60 x vx o1 (rx.mono s _ _)
      have h2 := dp_of 60 (.tup ys) vy o2 (ry.mono s _ _)
      refine .inr (.inr ⟨toP x, toPs ys, h1.1, by simpa [toP] using h2.1, shaped_of o1 rx, by simpa [toP] using shaped_of o2 ry, ?_⟩)
      rw [any_eqv (n := 59) (m := 60) o1 o2, e]
      exact q
    · cases e
  · cases e
/-! ### built-ins -/
def fInt : List D → Option D
  | [.int i] => some (.int i)
  | [.bl k] => some (.int (if k then 1 else 0))
  | _ => none
theorem s_int : CallS T K (fun xs H Q => (∃ i, xs = [.int i] ∧ Q (.int i) H) ∨ ∃ k, xs = [.bl k] ∧ Q (.int (if k then 1 else 0)) H) fInt := by
  intro xs z e F H vs Q s rx q
  unfold fInt at e
  split at e
  · cases e
    obtain ⟨v, rfl, r⟩ := reps1 (ds := []) rx
    simp only [Rep] at r
    exact .inl ⟨_, by rw [r], q _ F H .refl rep_int⟩
  · cases e
    obtain ⟨v, rfl, r⟩ := reps1 (ds := []) rx
    simp only [Rep] at r
    exact .inr ⟨_, by rw [r], q _ F H .refl rep_int⟩
  · cases e
def boolsOf : List D → Option (List Bool)
  | [] => some []
  | .bl i :: r => (boolsOf r).map (i :: ·)
  | _ :: _ => none
theorem boolsOf_reps : ∀ {ds : List D} {ns : List Bool} {vs : List V}, boolsOf ds = some ns → Reps T K F ds vs → vs = ns.map V.bl
  | [], ns, vs, h, r => by simp only [boolsOf, Option.some.injEq] at h; simp only [Reps] at r; subst h; subst r; rfl
  | .bl i :: ds, ns, vs, h, r => by
    simp only [boolsOf, Option.map_eq_some_iff] at h
    obtain ⟨ns', h, rfl⟩ := h
    obtain ⟨v, r', rfl, h2, h3⟩ := r.uncons
    simp only [Rep] at h2
    subst h2
    rw [boolsOf_reps h h3]; rfl
  | .non :: _, _, _, h, _ => by simp [boolsOf] at h
  | .int _ :: _, _, _, h, _ => by simp [boolsOf] at h
  | .str _ :: _, _, _, h, _ => by simp [boolsOf] at h
  | .tup _ :: _, _, _, h, _ => by simp [boolsOf] at h
  | .lst _ :: _, _, _, h, _ => by simp [boolsOf] at h
  | .dic _ _ :: _, _, _, h, _ => by simp [boolsOf] at h
  | .ins _ _ :: _, _, _, h, _ => by simp [boolsOf] at h
  | .own _ :: _, _, _, h, _ => by simp [boolsOf] at h
  | .pin _ :: _, _, _, h, _ => by simp [boolsOf] at h
def fAll : List D → Option D
  | [.lst xs] => (boolsOf xs).map fun bs => .bl (bs.all id)
  | _ => none
theorem s_all : CallS T K (rAll K) fAll := by
  intro xs z e F H vs Q s rx q
  unfold fAll at e
  split at e
  · rw [Option.map_eq_some_iff] at e
    obtain ⟨bs, e, rfl⟩ := e
    obtain ⟨v, rfl, r⟩ := reps1 (ds := []) rx
    simp only [Rep] at r
    obtain ⟨a, us, rfl, h2, h3⟩ := r
    exact ⟨a, bs, rfl, by rw [← boolsOf_reps e h3]; exact SqL.of (s _ _ h2), q _ F H .refl rep_bl⟩
  · cases e
def fTuple : List D → Option D
  | [.lst xs] => some (.tup xs)
  | [.tup xs] => some (.tup xs)
  | _ => none
end
/-! ### slices -/
def sixD (n d : Nat) : Option Int → Nat
  | none => d
  | some v => if v < 0 then (v + (n : Int)).toNat else min v.toNat n
def cutD {α : Type} (xs : List α) (lo hi : Option Int) : List α := (xs.drop (sixD xs.length 0 lo)).take (sixD xs.length xs.length hi - sixD xs.length 0 lo)
def sliceD (lo hi : Option Int) : D → Option D
  | .lst xs => some (.lst (cutD xs lo hi))
  | .tup xs => some (.tup (cutD xs lo hi))
  | .str xs => some (.str (cutD xs lo hi))
  | _ => none
def optI : Option EM → (Option Int → EM) → EM
  | none, k => k none
  | some f, k => bE f fun x => match x with
    | .int i => k (some i)
    | _ => lift none
def dSlice (fe : EM) (fl fh : Option EM) : EM := bE fe fun x => optI fl fun lo => optI fh fun hi => lift (sliceD lo hi x)
section
variable {T : Tb} {X : Cx} {P : Nat → Option V} {W : WX} {K : PySem.W.Frag} {F F' F1 H H' H1 : Hp} {g g1 : Nat → List Addr} {env env' : DEnv} {σ : L2.St}
structure DP (T : Tb) (X : Cx) (P : Nat → Option V) (W : WX) (e : Option Expr) (f : Option EM) : Prop where
  ex : ∃ t, PO X e t ∧ ∀ (k : Option Int → EM) env r env', optI f k env = some (r, env') → ∀ F g σ H (Q' : Option Int → Hp → Prop), Abs T X.K P F g env σ H → (∀ c fs, r = .ex c fs → ExE T X.K P W env' F g σ H c fs) →
    (∀ i e1, k i e1 = some (r, env') → ∀ F1 g1 H1, Grow F g H F1 g1 H1 → Abs T X.K P F1 g1 e1 σ H1 → Q' i H1) → t σ H Q'
theorem dp_none : DP T X P W none none := ⟨_, po_none, fun k env r env' h F g σ H Q' A hx kk => kk none env h F g H (Grow.refl _ _ _) A⟩
theorem dp_some {e : Expr} {fe : EM} (he : DE T X P W e fe) : DP T X P W (some e) (some fe) := by
  obtain ⟨t, p, se⟩ := he.ex
  refine ⟨_, po_some p, fun k env r env' h F g σ H Q' A hx kk => ?_⟩
  refine soundE_bind se h A hx fun x e1 h1 v F1 g1 H1 G1 A1 R1 => ?_
  cases x with
  | int i =>
    simp only [Rep] at R1
    exact ⟨i, R1, kk (some i) e1 h1 F1 g1 H1 G1 A1⟩
  | _ => cases h1
def rSlAll (K : PySem.W.Frag) : V → Option Int → Option Int → Hp → VK → Prop := fun x lo hi H Q => rSlL K x lo hi H Q ∨ (rSlA K x lo hi H Q ∨ rSlS x lo hi H Q)
theorem sl_all : SlR X (rSlAll X.K) := SlR.or sl_list (SlR.or sl_tupA sl_str)
theorem six_eq (n d : Nat) (o : Option Int) : sixD n d o = HT.sIx n d o := by cases o <;> rfl
theorem cut_reps {ds : List D} {vs : List V} (h : Reps T K F ds vs) (lo hi : Option Int) : Reps T K F (cutD ds lo hi) (cutV vs lo hi) := by
  unfold cutD cutV
  rw [six_eq, six_eq, h.length]
  exact (h.drop _).take _
theorem cut_whole {α : Type} {xs : List α} {lo hi : Option Int} (h : HT.sIx xs.length 0 lo = 0 ∧ HT.sIx xs.length xs.length hi = xs.length) : cutD xs lo hi = xs := by
  unfold cutD
  rw [six_eq, six_eq, h.1, h.2]
  simp
theorem strB_sub {x y : List Nat} (h : strB x = true) (hl : y.length ≤ x.length) (hs : ∀ c ∈ y, c ∈ x) : strB y = true := by
  unfold strB at h ⊢
  obtain ⟨h1, h2⟩ := Bool.and_eq_true_iff.mp h
  have h2 := of_decide_eq_true h2
  rw [Bool.and_eq_true]
  refine ⟨List.all_eq_true.mpr fun c hc => List.all_eq_true.mp h1 c (hs c hc), decide_eq_true (by omega)⟩
theorem cut_len {α : Type} (xs : List α) (lo hi : Option Int) : (cutD xs lo hi).length ≤ xs.length := by
  unfold cutD; rw [List.length_take, List.length_drop]; omega
theorem cut_mem {α : Type} {xs : List α} {lo hi : Option Int} {c : α} (h : c ∈ cutD xs lo hi) : c ∈ xs := List.mem_of_mem_drop (List.mem_of_mem_take h)
theorem de_slice {e : Expr} {lo hi : Option Expr} {fe : EM} {fl fh : Option EM} {p2 pos : Pos} (he : DE T X P W e fe) (hl : DP T X P W lo fl) (hh : DP T X P W hi fh) : DE T X P W (.Subscript e (.Slice lo hi none p2) pos) (dSlice fe fl fh) := by
  obtain ⟨t, p, se⟩ := he.ex
  obtain ⟨tl, pl, sl⟩ := hl.ex
  obtain ⟨th, ph, sh⟩ := hh.ex
  refine ⟨_, pe_slice sl_all p pl ph, fun env r env' h F g σ H Q A post => ?_⟩
  refine soundE_bind se h A post.exx fun x e1 h1 v F1 g1 H1 G1 A1 R1 => ?_
  refine sl _ e1 r env' h1 F1 g1 σ H1 _ A1 (post.grow G1).exx fun i e2 h2 F2 g2 H2 G2 A2 => ?_
  refine sh _ e2 r env' h2 F2 g2 σ H2 _ A2 ((post.grow G1).grow G2).exx fun j e3 h3 F3 g3 H3 G3 A3 => ?_
  have G := (G1.trans G2).trans G3
  have R3 := R1.mono (G2.sub.trans G3.sub) _ _
  obtain ⟨z, hz, rfl, rfl⟩ := lift_eq h3
  unfold sliceD at hz
  split at hz
  · cases hz
    simp only [Rep] at R3
    obtain ⟨a, vs, rfl, h4, h5⟩ := R3
    refine .inl ⟨a, vs, rfl, SqL.of (A3.sub _ _ h4), fun p hp => ?_⟩
    exact post _ _ g3 _ (G.trans (grow_laid A3.sub hp)) (A3.laid hp) (rep_newL A3.sub hp (cut_reps h5 i j))
  · cases hz
    have R3' := R3
    simp only [Rep] at R3
    obtain ⟨a, vs, rfl, h4, h5⟩ := R3
    refine .inr (.inl ⟨a, vs, rfl, same_sqT A3.sub h4.sq, fun hw => ?_, fun _ p hp => ?_⟩)
    · rw [← h5.length] at hw
      rw [cut_whole hw] at post
      exact post _ F3 g3 H3 G A3 R3'
    · exact post _ _ g3 _ (G.trans (grow_laid A3.sub hp)) (A3.laid hp) (rep_newT A3.sub hp (cut_reps h5 i j))
  · rename_i xs
    cases hz
    simp only [Rep] at R3
    obtain ⟨rfl, h5⟩ := R3
    refine .inr (.inr ⟨_, rfl, by rw [str_length, lim_eq]; exact strB_len h5, ?_⟩)
    have e : cutS ⟨xs.toArray⟩ i j = ⟨(cutD xs i j).toArray⟩ := by
      unfold cutS cutD
      rw [six_eq, six_eq, str_length]
    rw [e]
    exact post _ F3 g3 H3 G A3 (rep_s (strB_sub h5 (cut_len _ _ _) fun c hc => cut_mem hc))
  · cases hz
/-! ### is True, is False -/
def oIsB (x y : D) : Option D := match x, y with
  | .bl a, .bl b => some (.bl (a == b))
  | _, _ => none
def oNotB (x y : D) : Option D := match x, y with
  | .bl a, .bl b => some (.bl (!(a == b)))
  | _, _ => none
/-! ### a, b = x, y -/
theorem toS_eq {o : Option DEnv} {r : Out} (h : toS o = some (r, env')) : o = some env' ∧ r = .nx := by
  unfold toS at h
  split at h
  · simp only [Option.some.injEq, Prod.mk.injEq] at h
    obtain ⟨rfl, rfl⟩ := h
    exact ⟨rfl, rfl⟩
  · cases h
/-- targets = e -/
def asgS (fe : EM) (gm : GM) : SM := bS fe fun d env => toS (gm d env)
end
end DS
namespace DS
open PySem PySem.Spec L2
/-! ### products -/
def oMul (x y : D) : Option D := match x, y with
  | .int i, .int j => if (-18446744073709551616 < i ∧ i < 18446744073709551616) ∨ (-18446744073709551616 < j ∧ j < 18446744073709551616) then some (.int (i * j)) else none
  | _, _ => none
section
variable {T : Tb} {K : PySem.W.Frag} {F F' H H' : Hp}
theorem s_mul : OpS T K (rI CMul fun i j => .int (i * j)) oMul := by
  intro x y z e F H vx vy Q s rx ry q
  unfold oMul at e
  split at e
  · rename_i i j
    split at e
    · rename_i c
      cases e
      simp only [Rep] at rx ry
      refine ⟨i, j, rx, ry, ?_, q _ F H .refl rep_int⟩
      unfold CMul
      rcases c with c | c
      · exact .inl ⟨by omega, by omega⟩
      · exact .inr ⟨by omega, by omega⟩
    · cases e
  · cases e
end
/-! ### isinstance -/
/-- a kind of data: a built-in type, an own class by number -/
inductive KT where
  | b (s : BT) | o (c : Nat)
  deriving DecidableEq
def kindOf : D → Option KT
  | .non => some (.b .non)
  | .bl _ => some (.b .bl)
  | .int _ => some (.b .int)
  | .str _ => some (.b .str)
  | .tup _ => some (.b .tup)
  | .lst _ => some (.b .lst)
  | .dic _ _ => some (.b .dic)
  | .ins c _ => some (.o c)
  | _ => none
def KT.v (T : Tb) (K : PySem.W.Frag) : KT → Option Value
  | .b s => some (.type s.nm)
  | .o c => if c ∈ T.hs then (T.cn[c]?).map fun n => .ref (He.ga K n) else none
/-- what isinstance asks of an own class -/
structure InsOk (K : PySem.W.Frag) (C : Addr) : Prop where
  cl : Cls K C
  ha : PySem.W.findIn K (.ref C) "__class__" = some (some (.builtin "object.__class__"))
  hn : PySem.W.specialIn K (.builtin "object.__class__") "__get__" = some (some (.builtin "getset_descriptor.__get__"))
  htk : PySem.W.takesIn K (.builtin "object.__class__") = some true
  hm : PySem.W.mroIn K C (.type "object") = some true
def CF (T : Tb) (K : PySem.W.Frag) : Prop := ∀ c n, c ∈ T.hs → T.cn[c]? = some n → InsOk K (He.ga K n)
theorem tyx_of {T : Tb} {K : PySem.W.Frag} {F H : Hp} {d : D} {v : V} {k : KT} (cf : CF T K) (s : Same F H) (r : Rep T K F d v) (h : kindOf d = some k) : ∃ t, k.v T K = some t ∧ TyX K H v t := by
  cases d with
  | non => simp only [kindOf, Option.some.injEq] at h; subst h; simp only [Rep] at r; subst r; exact ⟨_, rfl, .base .non⟩
  | bl b => simp only [kindOf, Option.some.injEq] at h; subst h; simp only [Rep] at r; subst r; exact ⟨_, rfl, .base (.bl b)⟩
  | int b => simp only [kindOf, Option.some.injEq] at h; subst h; simp only [Rep] at r; subst r; exact ⟨_, rfl, .base (.int b)⟩
  | str b => simp only [kindOf, Option.some.injEq] at h; subst h; simp only [Rep] at r; obtain ⟨rfl, _⟩ := r; exact ⟨_, rfl, .base (.str _)⟩
  | lst xs =>
    simp only [kindOf, Option.some.injEq] at h; subst h
    simp only [Rep] at r
    obtain ⟨a, vs, rfl, h1, _⟩ := r
    exact ⟨_, rfl, .base (.lst (s _ _ h1))⟩
  | tup xs =>
    simp only [kindOf, Option.some.injEq] at h; subst h
    simp only [Rep] at r
    obtain ⟨a, vs, rfl, h1, _⟩ := r
    refine ⟨_, rfl, ?_⟩
    rcases h1.sq with (h | ⟨o, h⟩) | ⟨o, its, n, h, hc, _⟩
    · exact .base (.tup (s _ _ h))
    · exact .fTuple (s _ _ h)
    · exact .kTuple h hc
  | dic t kvs =>
    simp only [kindOf, Option.some.injEq] at h; subst h
    simp only [Rep] at r
    obtain ⟨a, rfl, ⟨_, l, h1, _⟩ | ⟨_, l, h1, _⟩⟩ := r
    · exact ⟨_, rfl, .base (.dK (s _ _ h1))⟩
    · exact ⟨_, rfl, .base (.dT (s _ _ h1))⟩
  | ins c fs =>
    simp only [kindOf, Option.some.injEq] at h; subst h
    simp only [Rep] at r
    obtain ⟨a, dx, n, l, rfl, ⟨h1, h2⟩, h3, _⟩ := r
    have I := cf c n h1 h2
    exact ⟨.ref (He.ga K n), by simp [KT.v, h1, h2], .base (.ins (s _ _ h3) I.cl I.ha I.hn I.htk I.hm)⟩
  | own _ => simp only [Rep] at r
  | pin _ => simp only [Rep] at r
/-- the class u: the answer for each kind -/
def IsiOk (T : Tb) (K : PySem.W.Frag) (u : Value) (tab : KT → Bool) : Prop := ∀ k t, k.v T K = some t → PySem.W.kitOne K t u = some (tab k)
def tabB (n : BT) : KT → Bool
  | .b s => s.cd == n.cd || (s.cd == 1 && n.cd == 2)
  | .o _ => false
def tabO (l : List Nat) : KT → Bool
  | .b _ => false
  | .o c => l.contains c
theorem isi_b {T : Tb} {K : PySem.W.Frag} (n : BT) (h : ∀ (c : Nat) m, c ∈ T.hs → T.cn[c]? = some m → PySem.W.kitOne K (.ref (He.ga K m)) (.type n.nm) = some false) : IsiOk T K (.type n.nm) (tabB n) := by
  intro k t e
  cases k with
  | b s =>
    simp only [KT.v, Option.some.injEq] at e
    subst e
    refine kit_ty ?_
    cases s <;> cases n <;> decide +kernel
  | o c =>
    simp only [KT.v] at e
    split at e
    · rename_i hh
      rw [Option.map_eq_some_iff] at e
      obtain ⟨m, e, rfl⟩ := e
      exact h c m hh e
    · cases e
def isiD (tab : KT → Bool) (x : D) : Option D := (kindOf x).map fun k => .bl (tab k)
def isiT (tabs : List (KT → Bool)) (x : D) : Option D := (kindOf x).map fun k => .bl (tabs.any fun t => t k)
/-- a class's name -/
structure CPe (T : Tb) (X : Cx) (e : Expr) (tab : KT → Bool) : Prop where
  ex : ∃ v u, PE X e (tC v) ∧ ClsV v u ∧ IsiOk T X.K u tab
section
variable {T : Tb} {X : Cx} {P : Nat → Option V} {W : WX} {K : PySem.W.Frag} {F F' F1 H H' H1 : Hp} {g g1 : Nat → List Addr} {env env' : DEnv} {σ : L2.St}
theorem cpe_b {x : Str} {pos : Pos} (n : BT) (hg : Gl X x) (hm : X.mg x = none) (hv : bootBuiltins x = some (.type n.nm)) (h : ∀ (c : Nat) m, c ∈ T.hs → T.cn[c]? = some m → PySem.W.kitOne X.K (.ref (He.ga X.K m)) (.type n.nm) = some false)
    (hn : x ≠ "__name__") (hd : (x == ("__debug__" : Str)) = false) : CPe T X (.Name x pos) (tabB n) :=
  ⟨.ty n.nm, .type n.nm, pe_bltn hg hm hv rfl hn hd, .ty _, isi_b n h⟩
variable {a c : Expr} {fa : EM} {tab tab2 tab3 : KT → Bool} {x : Str} {p pos : Pos}
theorem de_isi (cf : CF T X.K) (ha : DE T X P W a fa) (hc : CPe T X c tab) (hg : Gl X x) (hm : X.mg x = none) (hv : bootBuiltins x = some (.builtin "isinstance"))
    (hn : x ≠ "__name__") (hdb : (x == ("__debug__" : Str)) = false) (s1 : starEach [a, c] X.env = (false, eval a X.env) :: starEach [c] X.env) (s2 : starEach [c] X.env = (false, eval c X.env) :: starEach [] X.env) (hpl : (backTo pos (starEach [c] X.env)).any (·.1) = false) :
    DE T X P W (.Call (.Name x p) [a, c] [] pos) (dUn (isiD tab) fa) := by
  obtain ⟨ta, pa, sa⟩ := ha.ex
  obtain ⟨cv, u, pc, kc, hk⟩ := hc.ex
  refine ⟨_, pe_callB call_isi hg hm hv (pa_cons pa (pa_cons pc pa_nil s2) s1) hn hdb s1 hpl, fun env o env' h F g σ H Q A post => ?_⟩
  refine soundE_bind sa h A post.exx fun x e1 h1 vx F1 g1 H1 G1 A1 R1 => ?_
  obtain ⟨z, hz, rfl, rfl⟩ := lift_eq h1
  unfold isiD at hz
  rw [Option.map_eq_some_iff] at hz
  obtain ⟨k, hk1, rfl⟩ := hz
  obtain ⟨t, ht, ty⟩ := tyx_of cf A1.sub R1 hk1
  exact ⟨vx, cv, t, u, _, rfl, kc, ty, hk k t ht, post _ F1 g1 H1 G1 A1 rep_bl⟩
theorem de_isiT2 {a c d : Expr} {pt : Pos} {kt} (cf : CF T X.K) (ha : DE T X P W a fa) (hc : CPe T X c tab) (hd : CPe T X d tab2) (hg : Gl X x) (hm : X.mg x = none) (hv : bootBuiltins x = some (.builtin "isinstance"))
    (hn : x ≠ "__name__") (hdb : (x == ("__debug__" : Str)) = false) (s1 : starEach [a, .Tuple [c, d] kt pt] X.env = (false, eval a X.env) :: starEach [.Tuple [c, d] kt pt] X.env) (s2 : starEach [.Tuple [c, d] kt pt] X.env = (false, eval (.Tuple [c, d] kt pt) X.env) :: starEach [] X.env)
    (s3 : starEach [c, d] X.env = (false, eval c X.env) :: starEach [d] X.env) (s4 : starEach [d] X.env = (false, eval d X.env) :: starEach [] X.env) (hpl : (backTo pos (starEach [.Tuple [c, d] kt pt] X.env)).any (·.1) = false) :
    DE T X P W (.Call (.Name x p) [a, .Tuple [c, d] kt pt] [] pos) (dUn (isiT [tab, tab2]) fa) := by
  obtain ⟨ta, pa, sa⟩ := ha.ex
  obtain ⟨cv, u, pc, kc, hk⟩ := hc.ex
  obtain ⟨dv, w, pd, kd, hk2⟩ := hd.ex
  refine ⟨_, pe_callB call_isiT hg hm hv (pa_cons pa (pa_cons (pe_tup (pa_cons pc (pa_cons pd pa_nil s4) s3)) pa_nil s2) s1) hn hdb s1 hpl, fun env o env' h F g σ H Q A post => ?_⟩
  refine soundE_bind sa h A post.exx fun x e1 h1 vx F1 g1 H1 G1 A1 R1 => ?_
  obtain ⟨z, hz, rfl, rfl⟩ := lift_eq h1
  unfold isiT at hz
  rw [Option.map_eq_some_iff] at hz
  obtain ⟨k, hk1, rfl⟩ := hz
  refine ⟨by rw [lim_eq]; exact Nat.le_of_ble_eq_true rfl, fun tp htp => ?_⟩
  have A2 := A1.laid (o := .tup [cv, dv]) htp
  obtain ⟨t, ht, ty⟩ := tyx_of cf A2.sub (R1.mono ((New.one htp).up A1.sub) _ _) hk1
  refine ⟨vx, tp, [cv, dv], t, [u, w], _, rfl, upd_same, .cons kc (.cons kd .nil), ty, ?_, post _ _ g1 _ (G1.trans (grow_laid A1.sub htp)) A2 rep_bl⟩
  rw [PySem.W.kitAny.eq_2, hk k t ht, PySem.W.kitAny.eq_2, hk2 k t ht]
  simp only [List.any_cons, List.any_nil, Bool.or_false]
  cases tab k <;> cases tab2 k <;> rfl
end
/-! ### an owned list in a slot -/
/-- the list that slot j owns -/
def slLst (j : Nat) (env : DEnv) : Option (List D) := match env[j]? with
  | some (some (.own (.lst xs))) => some xs
  | some (some (.pin (.lst xs))) => some xs
  | _ => none
def slPut (j : Nat) (xs : List D) (env : DEnv) : Option DEnv := match env[j]? with
  | some (some (.own (.lst _))) => some (env.set j (some (.own (.lst xs))))
  | some (some (.pin (.lst _))) => some (env.set j (some (.pin (.lst xs))))
  | _ => none
section
variable {T : Tb} {X : Cx} {P : Nat → Option V} {W : WX} {K : PySem.W.Frag} {F F' F1 H H' H1 : Hp} {g g1 : Nat → List Addr} {env env' : DEnv} {σ : L2.St}
theorem Abs.slLst (A : Abs T K P F g env σ H) {j : Nat} {xs : List D} (e : slLst j env = some xs) : ∃ a vs, σ[j]? = some (some (.ref a)) ∧ g j = [a] ∧ F a = none ∧ H a = some (.lst vs) ∧ Reps T K F xs vs := by
  unfold DS.slLst at e
  split at e
  · rename_i ys ej
    cases e
    obtain ⟨v, h1, h2⟩ := A.at_ j _ ej
    rw [slotO_own] at h2
    simp only [RepO] at h2
    obtain ⟨a, vs, rfl, h3, h4, h5, h6⟩ := h2
    exact ⟨a, vs, h1, h3, h4, h5, h6⟩
  · rename_i ys ej
    cases e
    obtain ⟨v, h1, h2⟩ := A.at_ j _ ej
    rw [slotO_pin] at h2
    obtain ⟨h2, _⟩ := h2
    simp only [RepO] at h2
    obtain ⟨a, vs, rfl, h3, h4, h5, h6⟩ := h2
    exact ⟨a, vs, h1, h3, h4, h5, h6⟩
  · cases e
/-- the owned list is written -/
theorem Abs.slPut (A : Abs T K P F g env σ H) {j : Nat} {ys : List D} {us : List V} {a : Addr} (e : slPut j ys env = some env') (hs : σ[j]? = some (some (.ref a))) (hg : g j = [a]) (r : Reps T K F ys us) : Abs T K P F g env' σ (upd H a (.lst us)) := by
  have fa : F a = none := (A.inn j a (by rw [hg]; simp)).1
  have other : ∀ i, i ≠ j → ∀ b ∈ g i, b ≠ a := fun i hi b hb q => hi (A.dis i j b hb (by rw [hg, q]; simp))
  have key : ∀ w, (w = .own (.lst ys) ∨ (w = .pin (.lst ys) ∧ P j = some (.ref a))) → env' = env.set j (some w) → j < env.length → Abs T K P F g env' σ (upd H a (.lst us)) := by
    intro w hw ee hj
    subst ee
    refine ⟨fun b u q => ?_, by simpa using A.len, fun i d ei => ?_, A.dis, fun i hi => ?_⟩
    · rw [upd_ne (ne_of_none q fa)]; exact A.sub _ _ q
    · by_cases hij : j = i
      · subst hij
        rw [List.getElem?_set_self hj] at ei
        cases ei
        refine ⟨_, hs, ?_⟩
        have core : RepO T K F (upd H a (.lst us)) (.own (.lst ys)) (.ref a) (g j) := by
          simp only [RepO]
          exact ⟨a, us, rfl, hg, fa, upd_same, r⟩
        rcases hw with rfl | ⟨rfl, hp⟩
        · rw [slotO_own]; exact core
        · rw [slotO_pin]; exact ⟨core, hp⟩
      · rw [List.getElem?_set_ne hij] at ei
        obtain ⟨v, h1, h2⟩ := A.at_ i d ei
        exact ⟨v, h1, slotO_keep (Same.refl _) h2 (fun b hb o q => by rw [upd_ne (other i (Ne.symm hij) b hb)]; exact q) fun b hb => (A.inn i b hb).1⟩
    · by_cases hij : j = i
      · subst hij
        exact absurd (List.getElem?_set_self hj) (hi w)
      · refine A.out i fun d q => hi d ?_
        rw [List.getElem?_set_ne hij]; exact q
  unfold DS.slPut at e
  split at e
  · rename_i ej
    simp only [Option.some.injEq] at e
    have hj : j < env.length := by
      rcases Nat.lt_or_ge j env.length with q | q
      · exact q
      · rw [List.getElem?_eq_none q] at ej; cases ej
    exact key _ (.inl rfl) e.symm hj
  · rename_i ej
    simp only [Option.some.injEq] at e
    have hj : j < env.length := by
      rcases Nat.lt_or_ge j env.length with q | q
      · exact q
      · rw [List.getElem?_eq_none q] at ej; cases ej
    refine key _ (.inr ⟨rfl, ?_⟩) e.symm hj
    obtain ⟨v, h1, h2⟩ := A.at_ j _ ej
    rw [slotO_pin] at h2
    rw [h1] at hs
    simp only [Option.some.injEq] at hs
    rw [h2.2, hs]
  · cases e
theorem grow_put1 (A : Abs T K P F g env σ H) {j : Nat} {a : Addr} {o : HO} (hg : g j = [a]) : Grow F g H F g (upd H a o) := by
  refine ⟨Same.refl _, fun b u nb e => ?_, fun _ _ _ _ h => h, fun i b h => .inl ⟨i, h⟩⟩
  have : b ≠ a := fun q => nb j (by rw [hg, q]; simp)
  rw [upd_ne this]; exact e
/-- xs[e] of an owned list -/
def dIxS (j : Nat) (fe : EM) : EM := fun env => if (slLst j env).isSome = true then bE fe (fun i env => match slLst j env, i with
  | some xs, .int n => lift (atD xs n) env
  | _, _ => none) env else none
theorem de_ixS {x : Str} {j : Nat} {b : Expr} {fb : EM} {p pos : Pos} (hj : PE X (.Name x p) (tVar j)) (hb : DE T X P W b fb) (hs : PlainIx b) : DE T X P W (.Subscript (.Name x p) b pos) (dIxS j fb) := by
  obtain ⟨tb, pb, sb⟩ := hb.ex
  refine ⟨_, pe_ix ix_seq hj pb hs, fun env o env' h F g σ H Q A post => ?_⟩
  unfold dIxS at h
  split at h
  · rename_i c
    obtain ⟨zs, ez⟩ := Option.isSome_iff_exists.mp c
    obtain ⟨a0, vs0, hv, _⟩ := A.slLst ez
    refine ⟨_, hv, ?_⟩
    refine soundE_bind sb h A post.exx fun d e1 h1 vi F1 g1 H1 G1 A1 R1 => ?_
    split at h1
    · rename_i xs n es
      obtain ⟨z, hz, rfl, rfl⟩ := lift_eq h1
      obtain ⟨a, vs, h2, h3, h4, h5, h6⟩ := A1.slLst es
      rw [hv] at h2
      simp only [Option.some.injEq, V.ref.injEq] at h2
      subst h2
      simp only [Rep] at R1
      obtain ⟨w, h7, h8⟩ := atI_reps h6 hz
      exact .inl ⟨_, vs, n, w, rfl, R1, SqL.of h5, h7, post _ F1 g1 H1 G1 A1 h8⟩
    · cases h1
  · cases h
/-- xs[e] = v -/
def stoS (j : Nat) (fv fi : EM) : SM := bS fv fun d => fun env => match slLst j env with
  | none => none
  | some _ => bS fi (fun i env => match slLst j env, i with
    | some xs, .int n => (match ixD xs.length n with
      | some k => toS (slPut j (xs.set k d) env)
      | none => none)
    | _, _ => none) env
theorem reps_set : ∀ {ds : List D} {vs : List V} {d : D} {v : V} {k : Nat}, Reps T K F ds vs → Rep T K F d v → Reps T K F (ds.set k d) (vs.set k v)
  | [], vs, d, v, k, h, r => by simp only [Reps] at h; subst h; exact Reps.nil
  | c :: ds, vs, d, v, 0, h, r => by
    obtain ⟨u, l, rfl, h2, h3⟩ := h.uncons
    exact Reps.cons r h3
  | c :: ds, vs, d, v, k + 1, h, r => by
    obtain ⟨u, l, rfl, h2, h3⟩ := h.uncons
    exact Reps.cons h2 (reps_set h3 r)
theorem ds_sto {x : Str} {j : Nat} {b e : Expr} {fb fe : EM} {p ps pos : Pos} (hj : PE X (.Name x p) (tVar j)) (hb : DE T X P W b fb) (he : DE T X P W e fe)
    (ha : ∀ v : Value, assign (.Subscript (.Name x p) b ps) X.env v = do
      let ov ← holding [v] (eval (.Name x p) X.env)
      let iv ← holding [v, ov] (eval b X.env)
      standAt ps
      holding [v, ov, iv] (setItem ov iv v)
      release [v, ov, iv] [])
    (hs : swapsWithSole [.Subscript (.Name x p) b ps] e pos.line X.env = pure false) (hw : swappedStores [.Subscript (.Name x p) b ps] e X.env = pure none) (h1 : (assignEach [.Subscript (.Name x p) b ps] X.env).map (·.2) = [assign (.Subscript (.Name x p) b ps) X.env]) :
    DS1 T X P W (.Assign [.Subscript (.Name x p) b ps] e pos) (stoS j fe fb) := by
  obtain ⟨te, pe, se⟩ := he.ex
  obtain ⟨tb, pb, sb⟩ := hb.ex
  refine ⟨_, ps_asg pe (pg_sub hj pb set_list ha) hs hw h1, fun env o env' h F g σ H Z A post => ?_⟩
  refine soundS_bind se h A post.exx fun d e1 h1 v F1 g1 H1 G1 A1 R1 => ?_
  cases ez : slLst j e1 with
  | none => rw [ez] at h1; cases h1
  | some zs =>
    rw [ez] at h1
    obtain ⟨a, vs0, hv, _⟩ := A1.slLst ez
    refine ⟨_, hv, ?_⟩
    refine soundS_bind sb h1 A1 (post.grow G1).exx fun i e2 h2 vi F2 g2 H2 G2 A2 R2 => ?_
    split at h2
    · rename_i xs n es
      split at h2
      · rename_i k ek
        obtain ⟨ep, rfl⟩ := toS_eq h2
        obtain ⟨a', vs, h3, h4, h5, h6, h7⟩ := A2.slLst es
        rw [hv] at h3
        simp only [Option.some.injEq, V.ref.injEq] at h3
        subst h3
        simp only [Rep] at R2
        have A3 := A2.slPut ep hv h4 (reps_set (k := k) h7 (R1.mono G2.sub _ _))
        refine ⟨_, vs, n, k, rfl, R2, h6, ?_, ?_⟩
        · rw [← h7.length]; exact ek
        · exact post _ _ _ _ ((G1.trans G2).trans (grow_put1 A2 h4)) A3
      · cases h2
    · cases h2
/-- xs.append(e), of an owned list -/
def appS (j : Nat) (fe : EM) : SM := fun env => match slLst j env with
  | none => none
  | some _ => bS fe (fun d env => match slLst j env with
    | some xs => if xs.length < 16777216 then toS (slPut j (xs ++ [d]) env) else none
    | _ => none) env
theorem ds_app {x : Str} {j : Nat} {e : Expr} {fe : EM} {p ap cp pos : Pos} (hj : PE X (.Name x p) (tVar j)) (he : DE T X P W e fe)
    (hat : attributeBase (.Name x p) "append" X.env (eval (.Name x p) X.env) = eval (.Name x p) X.env)
    (hb : ((((backTo cp (starEach [e] X.env)).all fun x => !x.fst) && (backToKw cp (keywordEach [] X.env)).all fun x => x.fst.isSome) && decide (([e] : List Expr).length + ([] : List Keyword).length + (if ([] : List Keyword).isEmpty = true then 0 else 1) < 30)) = true)
    (hl : (ap.endLine == cp.line) = true) (s1 : starEach [e] X.env = (false, eval e X.env) :: starEach [] X.env) (h5 : ((backTo cp (starEach [] X.env)).any fun x => x.fst) = false)
    (hs : swapsWith (.Call (.Attribute (.Name x p) "append" ap) [e] [] cp) none pos.line X.env = pure false) :
    DS1 T X P W (.Expr (.Call (.Attribute (.Name x p) "append" ap) [e] [] cp) pos) (appS j fe) := by
  obtain ⟨te, pe, se⟩ := he.ex
  refine ⟨_, ps_expr (pe_bm PySem.F.plainAttrs_list PySem.F.slot_list_append PySem.F.type_list_append mt_append hj (pa_cons pe pa_nil s1) hat hb hl s1 h5) hs, fun env o env' h F g σ H Z A post => ?_⟩
  unfold appS at h
  cases ez : slLst j env with
  | none => rw [ez] at h; cases h
  | some zs =>
    rw [ez] at h
    obtain ⟨a, vs0, hv, _, _, h00, _⟩ := A.slLst ez
    refine ⟨_, hv, .inl ⟨rfl, _, SqL.of h00⟩, ?_⟩
    refine soundS_bind se h A post.exx fun d e1 h1 v F1 g1 H1 G1 A1 R1 => ?_
    split at h1
    · rename_i xs es
      split at h1
      · rename_i hlen
        obtain ⟨ep, rfl⟩ := toS_eq h1
        obtain ⟨a', vs, h3, h4, h5, h6, h7⟩ := A1.slLst es
        rw [hv] at h3
        simp only [Option.some.injEq, V.ref.injEq] at h3
        subst h3
        have A3 := A1.slPut ep hv h4 (Reps.append h7 (Reps.cons R1 Reps.nil))
        refine ⟨_, vs, v, rfl, rfl, h6, ?_, ?_⟩
        · rw [← h7.length, lim_eq]; exact hlen
        · exact post _ _ _ _ (G1.trans (grow_put1 A1 h4)) A3
      · cases h1
    · cases h1
/-- len of an owned list -/
def lenS (j : Nat) : EM := fun env => match slLst j env with
  | some xs => lift (some (.int xs.length)) env
  | none => none
end
end DS
namespace DS
open PySem PySem.Spec L2
theorem room_le {k j : Nat} {A : Around} (h : Room k A) (l : j ≤ k) : Room j A := ⟨h.hd, by have := h.dp; omega, by have := h.un; omega⟩
theorem takes_w0 {X : Cx} : Takes X W0 := L2.takes0
section
variable {T : Tb} {P : Program} {w : World} {K : PySem.W.Frag} {mg : Str → Option Value} {base : Heap} {f : Addr} {fd : FuncData} {k n : Nat} {ps : List Str}
/-- nothing is promised -/
theorem fn_never (hn : n = ps.length) : FnOk P w K mg base (L2.CX P w) k f fd ps (spG T K n fun _ => none) :=
  ⟨fun vs H Q E h => by rw [spG_len h, hn], fun A outer s H args us vs Q E _ _ _ _ h => by obtain ⟨ds, F, g, r, outs, hm, _⟩ := h; cases hm⟩
/-- the draws' list of the script -/
def spSrc (K : PySem.W.Frag) : Sp := fun vs H Q _ => ∃ a ns, vs = [V.ref a] ∧ SqL K H a (List.map V.int ns) ∧ ∀ b c H', b ≠ c → H' b = some (.lst ((ns.take 63).map V.int)) → H' c = some (.lst [.ref b, .int 0, .int 0, .int 10003, .int 0]) → Q (.ref c) H'
/-- the law, from the script -/
def runLaw (n : Nat) (sm : SM) (ns : List Int) : Option (R × List D) := fin [] (sm (none :: some (.own (.lst [.lst ((ns.take 63).map D.int), .int 0, .int 0, .int 10003, .int 0])) :: List.replicate (n - 2) none))
def spLaw (K : PySem.W.Frag) (n : Nat) (sm : SM) : Sp := fun vs H Q _ => ∃ a ns, vs = [V.ref a] ∧ SqL K H a (List.map V.int ns) ∧ runLaw n sm ns = some (.ok (.bl true), []) ∧ ∀ H', Q (.bl true) H'
theorem ints_reps (F : Hp) : ∀ ns : List Int, Reps T K F (ns.map D.int) (ns.map V.int)
  | [] => Reps.nil
  | n :: ns => Reps.cons rep_int (ints_reps F ns)
end
/-- what the text of the source does -/
structure SrcB (X : Cx) (body : List Stmt) : Prop where
  ex : ∃ t, PSs X body t ∧ ∀ a ns H (Q : VK) Z, SqL X.K H a (List.map V.int ns) → (∀ b c H', b ≠ c → H' b = some (.lst ((ns.take 63).map V.int)) → H' c = some (.lst [.ref b, .int 0, .int 0, .int 10003, .int 0]) → Z.rt (.ref c) H') → t Z [some (.ref a)] H
theorem cut63 (ns : List Int) : cutV (ns.map V.int) none (some 63) = (ns.take 63).map V.int := by
  unfold cutV HT.sIx
  simp only [List.drop_zero, List.length_map, Nat.sub_zero]
  rw [← List.map_take, if_neg (by decide)]
  show List.map V.int (List.take (min 63 ns.length) ns) = _
  rw [← List.take_eq_take_min]
theorem src_body {X : Cx} {x y : Str} {p1 p2 p3 p4 p5 p6 p7 c1 c2 c3 c4 c5 : Pos} {j1 j2 j3 j4 j5} (hx : PE X (.Name x p1) (tVar 0)) (hg : Gl X y) (hm : X.mg y = none) (hv : bootBuiltins y = some (.type "list"))
    (hn : y ≠ "__name__") (hdb : (y == ("__debug__" : Str)) = false)
    (s0 : starEach [.Subscript (.Name x p1) (.Slice none (some (.Constant (.int 63) j1 c1)) none p2) p3] X.env = (false, eval (.Subscript (.Name x p1) (.Slice none (some (.Constant (.int 63) j1 c1)) none p2) p3) X.env) :: starEach [] X.env) (hpl : ((backTo p5 (starEach [] X.env)).any fun x => x.fst) = false)
    (s1 : starEach [.Call (.Name y p4) [.Subscript (.Name x p1) (.Slice none (some (.Constant (.int 63) j1 c1)) none p2) p3] [] p5, .Constant (.int 0) j2 c2, .Constant (.int 0) j3 c3, .Constant (.int 10003) j4 c4, .Constant (.int 0) j5 c5] X.env = (false, eval (.Call (.Name y p4) [.Subscript (.Name x p1) (.Slice none (some (.Constant (.int 63) j1 c1)) none p2) p3] [] p5) X.env) :: starEach [.Constant (.int 0) j2 c2, .Constant (.int 0) j3 c3, .Constant (.int 10003) j4 c4, .Constant (.int 0) j5 c5] X.env)
    (s2 : starEach [.Constant (.int 0) j2 c2, .Constant (.int 0) j3 c3, .Constant (.int 10003) j4 c4, .Constant (.int 0) j5 c5] X.env = (false, eval (.Constant (.int 0) j2 c2) X.env) :: starEach [.Constant (.int 0) j3 c3, .Constant (.int 10003) j4 c4, .Constant (.int 0) j5 c5] X.env)
    (s3 : starEach [.Constant (.int 0) j3 c3, .Constant (.int 10003) j4 c4, .Constant (.int 0) j5 c5] X.env = (false, eval (.Constant (.int 0) j3 c3) X.env) :: starEach [.Constant (.int 10003) j4 c4, .Constant (.int 0) j5 c5] X.env)
    (s4 : starEach [.Constant (.int 10003) j4 c4, .Constant (.int 0) j5 c5] X.env = (false, eval (.Constant (.int 10003) j4 c4) X.env) :: starEach [.Constant (.int 0) j5 c5] X.env)
    (s5 : starEach [.Constant (.int 0) j5 c5] X.env = (false, eval (.Constant (.int 0) j5 c5) X.env) :: starEach [] X.env) :
    SrcB X [.Return (some (.List [.Call (.Name y p4) [.Subscript (.Name x p1) (.Slice none (some (.Constant (.int 63) j1 c1)) none p2) p3] [] p5, .Constant (.int 0) j2 c2, .Constant (.int 0) j3 c3, .Constant (.int 10003) j4 c4, .Constant (.int 0) j5 c5] p6)) p7] := by
  refine ⟨_, pss_one (ps_ret (pe_lst (pa_cons (pe_callTy call_list_of hg hm hv (pa_cons (pe_slice sl_list hx po_none (po_some pe_int)) pa_nil s0) hn hdb s0 hpl) (pa_cons pe_int (pa_cons pe_int (pa_cons pe_int (pa_cons pe_int pa_nil s5) s4) s3) s2) s1))), fun a ns H Q Z hS hQ => ?_⟩
  refine ⟨_, rfl, 63, rfl, a, _, rfl, hS, fun p hp => ?_⟩
  refine ⟨p, _, rfl, .inl (SqL.of upd_same), fun l hl => ?_⟩
  refine ⟨by rw [lim_eq]; exact Nat.le_of_ble_eq_true rfl, fun c hc => ?_⟩
  have n1 : l ≠ c := fun e => by subst e; rw [upd_same] at hc; cases hc
  refine hQ l c _ n1 ?_ upd_same
  rw [upd_ne n1, upd_same, cut63]
theorem src_ok {P : Program} {w : World} {K : PySem.W.Frag} {mg : Str → Option Value} {base : Heap} {name qual x : Str} {params : Arguments} {body : List Stmt} {scope : Scope} {dvs : List V} {kws : List (Str × V)} {f : Addr} {fd : FuncData} {k : Nat}
    (FD : FunD K name qual params body scope dvs kws f fd) (S : FnScope [x] [x] scope)
    (hb : ∀ (cdv : Value) (A : Around) (outer : List Env) (s : Shared) (H : Hp) (E : XK), Room k (A.deeper (PyProof.Rows.envOfC qual scope s.heap.objs.size f cdv)) →
      SrcB (cxOf (L2.CX P w) P w K mg base [x] qual scope f cdv A outer s H E) body) :
    FnOk P w K mg base (L2.CX P w) (k + 1) f fd [x] (spSrc K) := by
  obtain ⟨oc, od, dV, kV, doc, pm, an, cdv, ct, osl, rfl, lk, hcd, _, _⟩ := FD.ex
  refine fn_of lk hcd S (fun vs H Q E h => by obtain ⟨a, ns, rfl, _⟩ := h; rfl) fun A outer s H vs Q E hr hsp => ?_
  obtain ⟨a, ns, rfl, hS, hQ⟩ := hsp
  obtain ⟨t, ht, st⟩ := (hb cdv A outer s H E hr).ex
  exact ⟨t, ht, st a ns H Q { nx := fun x H' => Q V.non H', rt := Q } hS hQ⟩
theorem law_ok {T : Tb} {P : Program} {w : World} {K : PySem.W.Frag} {mg : Str → Option Value} {base : Heap} {name qual x y z : Str} {params : Arguments} {body : List Stmt} {scope : Scope} {dvs : List V} {kws : List (Str × V)} {f g : Addr} {fd gd : FuncData} {k j : Nat} {N : List Str} {sm : SM} {p1 p2 p3 p4 p5 : Pos} {rest : List Stmt}
    (FD : FunD K name qual params body scope dvs kws f fd) (S : FnScope (x :: y :: N) [x] scope) (eb : body = .Assign [.Name y p1] (.Call (.Name z p2) [.Name x p3] [] p4) p5 :: rest)
    (G : FnOk P w K mg base (L2.CX P w) j g gd [x] (spSrc K)) (hjk : j ≤ k) (hmg : mg z = some (.ref g)) (hkp : PySem.W.keepIn K (.ref g) = true) (hbg : Binds K gd [x] [])
    (hf : ∀ (cdv : Value) (A : Around) (outer : List Env) (s : Shared) (H : Hp) (E : XK), let X := cxOf (L2.CX P w) P w K mg base (x :: y :: N) qual scope f cdv A outer s H E;
      PE X (.Name x p3) (tVar 0) ∧ Gl X z ∧ L2.Loc X.env.scope y ∧ (z == ("__debug__" : Str)) = false ∧ (starEach [.Name x p3] X.env = (false, eval (.Name x p3) X.env) :: starEach [] X.env) ∧ ((backTo p4 (starEach [] X.env)).any fun x => x.fst) = false ∧ swapsWith (.Call (.Name z p2) [.Name x p3] [] p4) (some (.Name y p1)) p5.line X.env = pure false)
    (hb : ∀ (cdv : Value) (A : Around) (outer : List Env) (s : Shared) (H : Hp) (E : XK) (PP : Nat → Option V), Room k (A.deeper (PyProof.Rows.envOfC qual scope s.heap.objs.size f cdv)) →
      DSs T (cxOf (L2.CX P w) P w K mg base (x :: y :: N) qual scope f cdv A outer s H E) PP (fun cls d _ H => E cls d H) rest sm) :
    FnOk P w K mg base (L2.CX P w) (k + 1) f fd [x] (spLaw K (N.length + 2) sm) := by
  subst eb
  obtain ⟨oc, od, dV, kV, doc, pm, an, cdv, ct, osl, rfl, lk, hcd, _, _⟩ := FD.ex
  refine fn_of lk hcd S (fun vs H Q E h => by obtain ⟨a, ns, rfl, _⟩ := h; rfl) fun A outer s H vs Q E hr hsp => ?_
  obtain ⟨a, ns, rfl, hS, hm, hQ⟩ := hsp
  obtain ⟨t, ht, st⟩ := (hb cdv A outer s H E (fun _ => none) hr).ex
  obtain ⟨h1, h2, h3, h4, h5, h6, h7⟩ := hf cdv A outer s H E
  refine ⟨_, pss_cons (ps_set (i := 1) S.nd rfl h3 (pe_call G (room_le hr hjk) h2 hmg hkp hbg .nil (E := fun _ _ _ => False) (fun pins σ H s e s' I c => by obtain ⟨_, _, _, _, _, _, _, _, _, _, _, _, q⟩ := c; exact q.elim) (pa_cons h1 pa_nil h5) h4 h5 h6) h7 (.inl rfl)) ht, ?_⟩
  refine ⟨_, rfl, ⟨a, ns, rfl, hS, fun b c H' nb hb hc => ?_⟩⟩
  show t _ ((L2.start (x :: y :: N) [V.ref a]).set 1 (some (.ref c))) H'
  have es : (L2.start (x :: y :: N) [V.ref a]).set 1 (some (.ref c)) = some (.ref a) :: some (.ref c) :: List.replicate N.length none := by
    simp [L2.start, List.replicate_succ]
  rw [es]
  unfold runLaw at hm
  simp only [Nat.add_sub_cancel] at hm
  have A : Abs T K (fun _ => none) (upd (fun _ => none) b (.lst ((ns.take 63).map V.int))) (fun i => if i = 1 then [c] else []) (none :: some (.own (.lst [.lst ((ns.take 63).map D.int), .int 0, .int 0, .int 10003, .int 0])) :: List.replicate N.length none) (some (.ref a) :: some (.ref c) :: List.replicate N.length none) H' := by
    refine ⟨fun q u e => ?_, by simp, fun i d e => ?_, fun i j q h1 h2 => ?_, fun i h => ?_⟩
    · by_cases qb : q = b
      · subst qb; rw [upd_same] at e; rw [← e]; exact hb
      · rw [upd_ne qb] at e; cases e
    · match i with
      | 0 => simp at e
      | 1 =>
        simp only [List.getElem?_cons_succ, List.getElem?_cons_zero, Option.some.injEq] at e
        subst e
        refine ⟨.ref c, rfl, ?_⟩
        rw [slotO_own]
        simp only [RepO]
        refine ⟨c, _, rfl, rfl, upd_ne (Ne.symm nb), hc, ?_⟩
        refine Reps.cons ?_ (Reps.cons rep_int (Reps.cons rep_int (Reps.cons rep_int (Reps.cons rep_int Reps.nil))))
        simp only [Rep]
        exact ⟨b, _, rfl, upd_same, ints_reps _ _⟩
      | i + 2 =>
        simp only [List.getElem?_cons_succ, List.getElem?_replicate] at e
        split at e <;> simp at e
    · split at h1
      · split at h2
        · omega
        · cases h2
      · cases h1
    · by_cases q : i = 1
      · subst q
        exact absurd rfl (h _)
      · rw [if_neg q]
  cases e : sm (none :: some (.own (.lst [.lst ((ns.take 63).map D.int), .int 0, .int 0, .int 10003, .int 0])) :: List.replicate N.length none) with
  | none => rw [e] at hm; cases hm
  | some p =>
    obtain ⟨o, env'⟩ := p
    rw [e] at hm
    refine st _ _ _ e _ _ _ H' _ A ?_
    cases o with
    | rt d =>
      simp only [fin, outsOf, Option.map_some, Option.some.injEq, Prod.mk.injEq, R.ok.injEq, and_true] at hm
      subst hm
      intro v fp F1 g1 σ1 H1 G1 B1 R1 n1 m1
      rw [repO_sh rfl] at R1
      have := R1.2
      simp only [Rep] at this
      subst this
      exact hQ H1
    | nx => simp [fin, outsOf] at hm
    | ex c fs => simp [fin, outsOf] at hm
    | bk => cases hm
    | ct => cases hm
end DS
namespace DS
open PySem PySem.Spec L2
theorem room_u {k : Nat} {A : Around} (h : Room k A) : A.units + 65 < cLine := by have := h.un; omega
theorem room_v {k : Nat} {A : Around} (h : Room k A) : A.units + 64 < cLine := by have := h.un; omega
/-- a def and its promise -/
structure Fn (P : Program) (w : World) (K : PySem.W.Frag) (mg : Str → Option Value) (base : Heap) (k : Nat) (x : Str) (st : Stmt) (ps : List Str) (sp : Sp) : Prop where
  gl : mg x = some (.ref (He.ga K x))
  ex : ∃ fd, FunD K x x (defArgs st) (defBody st) (defScope st) [] [] (He.ga K x) fd ∧ FnOk P w K mg base (L2.CX P w) k (He.ga K x) fd ps sp ∧ Binds K fd ps []
/-- where it stands, how its arguments are bound -/
structure Fd (K : PySem.W.Frag) (mg : Str → Option Value) (x : Str) (st : Stmt) (ps : List Str) : Prop where
  gl : mg x = some (.ref (He.ga K x))
  ex : ∃ fd, FunD K x x (defArgs st) (defBody st) (defScope st) [] [] (He.ga K x) fd ∧ Binds K fd ps []
section
variable {T : Tb} {P : Program} {w : World} {K : PySem.W.Frag} {mg : Str → Option Value} {base : Heap} {k : Nat} {x : Str} {st : Stmt} {ps N : List Str} {sm : SM}
theorem Fd.fn (F : Fd K mg x st ps) (S : FnScope N ps (defScope st)) (hb : ∀ (f : Addr) (cdv : Value) (A : Around) (outer : List Env) (s : Shared) (H : Hp) (E : XK) (PP : Nat → Option V), Room k (A.deeper (PyProof.Rows.envOfC x (defScope st) s.heap.objs.size f cdv)) →
      DSs T (cxOf (L2.CX P w) P w K mg base N x (defScope st) f cdv A outer s H E) PP (fun cls d _ H => E cls d H) (defBody st) sm) :
    Fn P w K mg base (k + 1) x st ps (spG T K ps.length (runD N.length sm)) := by
  obtain ⟨fd, FD, b⟩ := F.ex
  exact ⟨F.gl, fd, FD, fn_ok FD S fun cdv A outer s H E PP hr => hb _ cdv A outer s H E PP hr, b⟩
theorem Fd.never (F : Fd K mg x st ps) : Fn P w K mg base k x st ps (spG T K ps.length fun _ => none) := by
  obtain ⟨fd, FD, b⟩ := F.ex
  exact ⟨F.gl, fd, FD, fn_never rfl, b⟩
theorem Fd.src {y : Str} (F : Fd K mg x st [y]) (S : FnScope [y] [y] (defScope st)) (hb : ∀ (f : Addr) (cdv : Value) (A : Around) (outer : List Env) (s : Shared) (H : Hp) (E : XK), SrcB (cxOf (L2.CX P w) P w K mg base [y] x (defScope st) f cdv A outer s H E) (defBody st)) :
    Fn P w K mg base (k + 1) x st [y] (spSrc K) := by
  obtain ⟨fd, FD, b⟩ := F.ex
  exact ⟨F.gl, fd, FD, src_ok FD S fun cdv A outer s H E _ => hb _ cdv A outer s H E, b⟩
end
section
variable {T : Tb} {X : Cx} {P : Nat → Option V} {W : WX} {k k' n : Nat} {x : Str} {st : Stmt} {ps : List Str} {m : List D → Option (R × List D)} {p pos : Pos} {e : Expr} {es : List Expr} {fr : AM} {j : Nat}
theorem de_fn (G : Fn X.prog X.w X.K X.mg X.base k x st ps (spG T X.K n m)) (hr : Room k' X.A) (hk : k ≤ k') (hg : Gl X x) (tk : Takes X W) (ha : DA T X P W (e :: es) fr) (hdb : (x == ("__debug__" : Str)) = false) (he : starEach (e :: es) X.env = (false, eval e X.env) :: starEach es X.env) (hpl : (backTo pos (starEach es X.env)).any (·.1) = false) :
    DE T X P W (.Call (.Name x p) (e :: es) [] pos) (dCallN n m [] fr) := by
  obtain ⟨fd, FD, FN, b⟩ := G.ex
  exact de_callN FN (room_le hr hk) hg G.gl FD.kp b .nil (fun _ => Reps.nil) tk ha hdb he hpl
theorem de_fnS (G : Fn X.prog X.w X.K X.mg X.base k x st ps (spG T X.K n m)) (hr : Room k' X.A) (hk : k ≤ k') (hg : Gl X x) (tk : Takes X W) (h0 : PE X e (tVar j)) (ha : DA T X P W es fr) (hdb : (x == ("__debug__" : Str)) = false) (he : starEach (e :: es) X.env = (false, eval e X.env) :: starEach es X.env) (hpl : (backTo pos (starEach es X.env)).any (·.1) = false) :
    DE T X P W (.Call (.Name x p) (e :: es) [] pos) (needS j (dCallS n m [] j fr)) := by
  obtain ⟨fd, FD, FN, b⟩ := G.ex
  exact de_callS FN (room_le hr hk) hg G.gl FD.kp b .nil (fun _ => Reps.nil) tk h0 ha hdb he hpl
end
def blkB (N : List Str) (sc scope : Scope) (own : List (Str × Nat)) : Bool :=
  decide (scope.kind = .function) && (scope.names.all (fun y => decide (scope.names.lookup y.1 = some y.2)) && (own.all (fun p => decide (N[p.2]? = some p.1)) &&
    (scope.names.all (fun y => decide (y.2 ≠ .free) || (decide (sc.names.lookup y.1 = some .cell) || decide (sc.names.lookup y.1 = some .free))) &&
      scope.names.all (fun y => (decide (y.2 ≠ .local) && decide (y.2 ≠ .cell)) || (decide (y.1 ∈ own.map (·.1)) || decide (y.1 ∉ N))))))
theorem blk_of {N : List Str} {sc scope : Scope} {own : List (Str × Nat)} (h : blkB N sc scope own = true) : BlkOk N sc scope own := by
  unfold blkB at h
  simp only [Bool.and_eq_true, List.all_eq_true, decide_eq_true_eq, Bool.or_eq_true] at h
  obtain ⟨h1, h2, h3, h4, h5⟩ := h
  refine ⟨h1, h2, h3, fun y hy hf => ?_, fun y hy hf => ?_⟩
  · rcases h4 y hy with q | q
    · exact absurd hf q
    · exact q
  · rcases h5 y hy with q | q
    · rcases hf with hf | hf
      · exact absurd hf q.1
      · exact absurd hf q.2
    · exact q
end DS
namespace DS
open PySem PySem.Spec L2
theorem fn_calm {P : Program} {w : World} {K : PySem.W.Frag} {mg : Str → Option Value} {base : Heap} {k : Nat} {f : Addr} {fd : FuncData} {ps : List Str} {sp : Sp} (h : FnOk P w K mg base (L2.CX P w) k f fd ps sp) :
    FnOk P w K mg base L2.CX0 k f fd ps (fun vs H Q _ => sp vs H Q fun _ _ _ => False) := by
  refine ⟨fun vs H Q E q => h.len vs H Q _ q, fun A outer s H args us vs Q E hr he hb hv hs => codeAny_mono (h.run A outer s H args us vs Q _ hr he hb hv hs) fun r s' c => ?_⟩
  cases r with
  | ok fl => cases fl <;> first | exact c | exact (show False from c).elim
  | error e =>
    obtain ⟨_, _, _, _, _, _, _, _, _, _, _, _, q⟩ := (show L2.CX P w outer H s (fun _ _ _ => False) e s' from c)
    exact q
end DS
namespace DS
/-! ### what must hold ahead, so that something holds behind -/
abbrev XP := Nat → List (Nat × D) → DEnv → Prop
def wO (o : Option D) (Q : D → Prop) : Prop := match o with
  | some d => Q d
  | none => False
def wE (f : EM) (env : DEnv) (X : XP) (Q : D → DEnv → Prop) : Prop := match f env with
  | some (.ok d, e) => Q d e
  | some (.ex c fs, e) => X c fs e
  | none => False
def wB (f : BM) (env : DEnv) (X : XP) (Q : Bool → DEnv → Prop) : Prop := match f env with
  | some (.ok d, e) => Q d e
  | some (.ex c fs, e) => X c fs e
  | none => False
def wA (f : AM) (env : DEnv) (X : XP) (Q : List Ag → DEnv → Prop) : Prop := match f env with
  | some (.ok d, e) => Q d e
  | some (.ex c fs, e) => X c fs e
  | none => False
def wI (f : IM) (env : DEnv) (X : XP) (Q : List D → DEnv → Prop) : Prop := match f env with
  | some (.ok d, e) => Q d e
  | some (.ex c fs, e) => X c fs e
  | none => False
def wG (o : Option DEnv) (Q : DEnv → Prop) : Prop := match o with
  | some e => Q e
  | none => False
structure Zs where
  nx : DEnv → Prop
  rt : D → DEnv → Prop
  bk : DEnv → Prop
  ct : DEnv → Prop
  ex : XP
def wS (f : SM) (env : DEnv) (Z : Zs) : Prop := match f env with
  | some (.nx, e) => Z.nx e
  | some (.rt d, e) => Z.rt d e
  | some (.bk, e) => Z.bk e
  | some (.ct, e) => Z.ct e
  | some (.ex c fs, e) => Z.ex c fs e
  | none => False
section
variable {env : DEnv} {X : XP} {Q : D → DEnv → Prop} {QB : Bool → DEnv → Prop} {QA : List Ag → DEnv → Prop} {QI : List D → DEnv → Prop} {Z : Zs}
theorem wE_of {f : EM} {d : D} {e : DEnv} (h : f env = some (.ok d, e)) (q : Q d e) : wE f env X Q := by unfold wE; rw [h]; exact q
theorem wE_eq {f : EM} (h : wE f env (fun _ _ _ => False) Q) : ∃ d e, f env = some (.ok d, e) ∧ Q d e := by
  unfold wE at h
  split at h
  · exact ⟨_, _, ‹_›, h⟩
  · exact h.elim
  · exact h.elim
theorem wE_iff {f : EM} {Q' : D → DEnv → Prop} (h : ∀ d e, Q d e ↔ Q' d e) : wE f env X Q ↔ wE f env X Q' := by
  unfold wE
  rcases f env with _ | ⟨_ | _, _⟩
  · exact Iff.rfl
  · exact h _ _
  · exact Iff.rfl
theorem wA_iff {f : AM} {Q' : List Ag → DEnv → Prop} (h : ∀ d e, QA d e ↔ Q' d e) : wA f env X QA ↔ wA f env X Q' := by
  unfold wA
  rcases f env with _ | ⟨_ | _, _⟩
  · exact Iff.rfl
  · exact h _ _
  · exact Iff.rfl
theorem wE_c {d : D} : wE (dC d) env X Q ↔ Q d env := Iff.rfl
theorem wE_lift {o : Option D} : wE (lift o) env X Q ↔ wO o fun z => Q z env := by cases o <;> exact Iff.rfl
theorem wE_bE {f : EM} {k : D → EM} : wE (bE f k) env X Q ↔ wE f env X fun x e => wE (k x) e X Q := by
  unfold wE bE
  rcases f env with _ | ⟨_ | _, _⟩ <;> exact Iff.rfl
theorem wE_bA {f : AM} {k : List Ag → EM} : wE (bA f k) env X Q ↔ wA f env X fun x e => wE (k x) e X Q := by
  unfold wE wA bA
  rcases f env with _ | ⟨_ | _, _⟩ <;> exact Iff.rfl
theorem wA_bAA {f : EM} {k : D → AM} : wA (bAA f k) env X QA ↔ wE f env X fun x e => wA (k x) e X QA := by
  unfold wA wE bAA
  rcases f env with _ | ⟨_ | _, _⟩ <;> exact Iff.rfl
theorem wA_mapA {f : AM} {g : List Ag → List Ag} : wA (mapA g f) env X QA ↔ wA f env X fun x e => QA (g x) e := by
  unfold wA mapA
  rcases f env with _ | ⟨_ | _, _⟩ <;> exact Iff.rfl
theorem wA_cons {fe : EM} {fr : AM} : wA (aCons fe fr) env X QA ↔ wE fe env X fun x e => wA fr e X fun r e' => QA (.sh x :: r) e' := by
  unfold aCons
  exact wA_bAA.trans (wE_iff fun x e => wA_mapA)
theorem wE_bL {f : AM} {k : List D → EM} : wE (bL f k) env X Q ↔ wA f env X fun as e => match shs as with | some ds => wE (k ds) e X Q | none => False := by
  unfold bL
  exact wE_bA.trans (wA_iff fun as e => by cases shs as <;> exact Iff.rfl)
/-- arguments that are plain: their values -/
def wL (f : AM) (env : DEnv) (X : XP) (Q : List D → DEnv → Prop) : Prop := wA f env X fun as e => match shs as with | some ds => Q ds e | none => False
theorem wL_mono {f : AM} {Q' : List D → DEnv → Prop} (h : wL f env X QI) (q : ∀ d e, QI d e → Q' d e) : wL f env X Q' := by
  revert h
  unfold wL wA
  rcases f env with _ | ⟨as | _, e⟩
  · exact id
  · simp only
    cases shs as with
    | none => exact id
    | some ds => exact q ds e
  · exact id
theorem wL_nil : wL aNil env X QI ↔ QI [] env := Iff.rfl
theorem wL_cons {fe : EM} {fr : AM} : wL (aCons fe fr) env X QI ↔ wE fe env X fun x e => wL fr e X fun r e' => QI (x :: r) e' := by
  unfold wL
  refine wA_cons.trans (wE_iff fun x e => wA_iff fun r e' => ?_)
  simp only [shs]
  cases shs r <;> exact Iff.rfl
theorem wE_bL' {f : AM} {k : List D → EM} : wE (bL f k) env X Q ↔ wL f env X fun ds e => wE (k ds) e X Q := wE_bL
/-- what slot j owns -/
def ownAt (j : Nat) (env : DEnv) (s : D) : Prop := env[j]? = some (some (.own s)) ∨ env[j]? = some (some (.pin s))
def setOwn (j : Nat) (s : D) (env : DEnv) : DEnv := match env[j]? with
  | some (some (.pin _)) => env.set j (some (.pin s))
  | _ => env.set j (some (.own s))
theorem setOwn_own {j : Nat} {s s' : D} (h : env[j]? = some (some (.own s))) : setOwn j s' env = env.set j (some (.own s')) := by unfold setOwn; rw [h]
theorem setOwn_pin {j : Nat} {s s' : D} (h : env[j]? = some (some (.pin s))) : setOwn j s' env = env.set j (some (.pin s')) := by unfold setOwn; rw [h]
theorem wE_callS {n : Nat} {m : List D → Option (R × List D)} {j : Nat} {f : AM} {s0 : D} (h0 : ownAt j env s0) (h : wL f env X fun ds e => ds.length + 1 = n ∧ ∃ s, ownAt j e s ∧ ∃ d s', m (.pin s :: ds) = some (.ok d, [s']) ∧ d.sh = true ∧ Q d (setOwn j s' e)) : wE (needS j (dCallS n m [] j f)) env X Q := by
  have hn : needS j (dCallS n m [] j f) env = dCallS n m [] j f env := by
    unfold needS
    rcases h0 with h0 | h0 <;> rw [h0]
  unfold wE
  rw [hn]
  show wE (dCallS n m [] j f) env X Q
  unfold dCallS
  rw [wE_bL']
  refine wL_mono h fun ds e ⟨h1, s, h2, d, s', h3, h4, h5⟩ => wE_of (d := d) (e := setOwn j s' e) ?_ h5
  unfold callS
  rw [List.append_nil, if_pos h1]
  rcases h2 with h2 | h2
  · rw [h2, setOwn_own h2]
    simp only [h3, if_pos h4]
  · rw [h2, setOwn_pin h2]
    simp only [h3, if_pos h4]
theorem wS_bS {f : EM} {k : D → SM} : wS (bS f k) env Z ↔ wE f env Z.ex fun x e => wS (k x) e Z := by
  unfold wS wE bS
  rcases f env with _ | ⟨_ | _, _⟩ <;> exact Iff.rfl
theorem wS_ret {f : EM} : wS (retS f) env Z ↔ wE f env Z.ex fun d e => Z.rt d e := by
  unfold retS
  rw [wS_bS]; exact Iff.rfl
/-- a comprehension -/
theorem lcM_of {gm : GM} {tm : BM} {em : EM} {vs : List Nat} (Inv : List D → List D → DEnv → Prop) (hs : ∀ d ds acc e, Inv (d :: ds) acc e → wG (gm d (wipeD e vs)) fun e1 => wB tm e1 (fun _ _ _ => False) fun b e2 => if b = true then wE em e2 (fun _ _ _ => False) fun y e3 => Inv ds (acc ++ [y]) e3 else Inv ds acc e2) :
    ∀ (xs acc : List D) (env : DEnv), Inv xs acc env → ∃ ys e, lcM gm tm em vs xs env = some (ys, e) ∧ Inv [] (acc ++ ys) e
  | [], acc, env, h => ⟨[], env, rfl, by rw [List.append_nil]; exact h⟩
  | d :: ds, acc, env, h => by
    have q := hs d ds acc env h
    unfold lcM
    unfold wG at q
    cases e1 : gm d (wipeD env vs) with
    | none => rw [e1] at q; exact q.elim
    | some e =>
      rw [e1] at q
      simp only at q ⊢
      unfold wB at q
      rcases e2 : tm e with _ | ⟨b | _, e3⟩ <;> rw [e2] at q <;> simp only at q ⊢
      · cases b with
        | true =>
          simp only [if_pos] at q ⊢
          obtain ⟨y, e4, h4, h5⟩ := wE_eq q
          rw [h4]
          simp only
          obtain ⟨ys, e5, h6, h7⟩ := lcM_of Inv hs ds (acc ++ [y]) e4 h5
          rw [h6]
          exact ⟨y :: ys, e5, rfl, by rw [List.append_assoc] at h7; exact h7⟩
        | false =>
          simp only [if_neg Bool.false_ne_true] at q ⊢
          exact lcM_of Inv hs ds acc e3 q
theorem wE_lc {im : IM} {gm : GM} {tm : BM} {em : EM} {vs : List Nat} (h : wI im env X fun xs e => plainSl e vs = true ∧ xs.length ≤ 16777216 ∧ ∃ ys e', lcM gm tm em vs xs e = some (ys, e') ∧ Q (.lst ys) (restD e e' vs)) : wE (dLc im gm tm em vs) env X Q := by
  revert h
  unfold wI wE dLc
  rcases im env with _ | ⟨xs | _, e⟩
  · exact id
  · rintro ⟨h1, h2, ys, e', h3, h4⟩
    simp only
    rw [if_pos (by rw [h1, decide_eq_true h2]; rfl), h3]
    exact h4
  · exact id
/-- a def's function by its body -/
theorem run_of {n : Nat} {sm : SM} {ds : List D} {Q : D → List D → Prop} (h : wS sm (startD n ds) ⟨fun e => ∃ o, outsOf ds e = some o ∧ Q .non o, fun d e => ∃ o, outsOf ds e = some o ∧ Q d o, fun _ => False, fun _ => False, fun _ _ _ => False⟩) : ∃ d o, runD n sm ds = some (.ok d, o) ∧ Q d o := by
  unfold wS at h
  unfold runD fin
  rcases e2 : sm (startD n ds) with _ | ⟨_ | _ | _ | _ | _, e3⟩ <;> rw [e2] at h <;> simp only at h ⊢
  · obtain ⟨o, h1, h2⟩ := h
    rw [h1]
    exact ⟨_, o, rfl, h2⟩
  · obtain ⟨o, h1, h2⟩ := h
    rw [h1]
    exact ⟨_, o, rfl, h2⟩
end
end DS
namespace DS
def sm_draw : SM := (seqS (ifS (andB (toB (dOp oEq (dIxS 0 (dC (.int 2))) (dC (.int 0)))) (toB (dOp oLt (dIxS 0 (dC (.int 1))) (dCall fLen (aCons (dIxS 0 (dC (.int 0))) aNil))))) (seqS (setS 3 (dOp oIx (dIxS 0 (dC (.int 0))) (dIxS 0 (dC (.int 1)))))
  (seqS (stoS 0 (dOp oAdd (dIxS 0 (dC (.int 1))) (dC (.int 1))) (dC (.int 1)))
  (ifS (toB (dOp oGe (dVar 3) (dOp oPow (dC (.int 10)) (dC (.int 18))))) (stoS 0 (dVar 3) (dC (.int 2))) (stoS 0 (dOp oMod (dCall fInt (aCons (dOp oAdd (dOp oAdd (dOp oMul (dIxS 0 (dC (.int 3))) (dC (.int 44927))) (dOp oMul (dOp oMod (dCall fInt (aCons (dVar 3) aNil)) (dC (.int 2147483563))) (dC (.int 6121)))) (dC (.int 59))) aNil)) (dC (.int 2147483579))) (dC (.int 3)))))) nxS)
  (seqS (ifS (toB (dOp oGt (dIxS 0 (dC (.int 2))) (dC (.int 0)))) (seqS (setS 4 (dOp oMod (dCall fInt (aCons (dIxS 0 (dC (.int 2))) aNil)) (dVar 1)))
  (seqS (stoS 0 (dOp oDiv (dIxS 0 (dC (.int 2))) (dVar 1)) (dC (.int 2)))
  (retS (dVar 4)))) nxS)
  (seqS (stoS 0 (dOp oAdd (dIxS 0 (dC (.int 4))) (dC (.int 1))) (dC (.int 4)))
  (seqS (setS 2 (dIxS 0 (dC (.int 3))))
  (seqS (stoS 0 (dOp oMod (dCall fInt (aCons (dOp oAdd (dOp oAdd (dOp oAdd (dOp oMul (dVar 2) (dVar 2)) (dOp oMul (dVar 2) (dC (.int 28411)))) (dOp oMul (dIxS 0 (dC (.int 4))) (dC (.int 1000669)))) (dC (.int 90149))) aNil)) (dC (.int 2147483579))) (dC (.int 3)))
  (retS (dOp oMod (dCall fInt (aCons (dOp oAdd (dOp oDiv (dIxS 0 (dC (.int 3))) (dC (.int 71))) (dOp oMul (dOp oMod (dCall fInt (aCons (dIxS 0 (dC (.int 3))) aNil)) (dC (.int 7907))) (dC (.int 47)))) aNil)) (dVar 1))))))))
def m_draw : List D → Option (R × List D) := runD 5 sm_draw
def sm_of : SM := (retS (dOp oIx (dVar 1) (needS 0 (dCallS 2 m_draw [] 0 (aCons (dCall fLen (aCons (dVar 1) aNil)) aNil)))))
def m_of : List D → Option (R × List D) := runD 2 sm_of
def sm_same (m : List D → Option (R × List D)) : SM := (seqS (ifS (truB (dUn (isiT [(tabB .lst), (tabB .tup)]) (dVar 1))) (seqS (ifS (orB (toB (dOp oNe (dUn (isiD (tabB .lst)) (dVar 0)) (dUn (isiD (tabB .lst)) (dVar 1)))) (toB (dOp oNe (dUn (isiD (tabB .tup)) (dVar 0)) (dUn (isiD (tabB .tup)) (dVar 1))))) (retS (dC (.bl false))) nxS)
  (retS (andV (dOp oEq (dCall fLen (aCons (dVar 0) aNil)) (dCall fLen (aCons (dVar 1) aNil))) (dCall fAll (aCons (dLc (iZipD (aCons (dVar 0) (aCons (dVar 1) aNil))) (gmTup (gmCons (gmName 2) (gmCons (gmName 3) gmNil))) (retB true) (dCallN 2 m [] (aCons (dVar 2) (aCons (dVar 3) aNil))) [2, 3]) aNil))))) nxS)
  (seqS (ifS (orB (toB (isNonV (dVar 1))) (toB (isNonV (dVar 0)))) (retS (andV (isNonV (dVar 1)) (isNonV (dVar 0)))) nxS)
  (seqS (ifS (orB (toB (dOp oNe (dUn (isiD (tabB .bl)) (dVar 0)) (dUn (isiD (tabB .bl)) (dVar 1)))) (toB (dOp oNe (dUn (isiD (tabB .int)) (dVar 0)) (dUn (isiD (tabB .int)) (dVar 1))))) (retS (dC (.bl false))) nxS)
  (retS (andV (dOp oEq (dUn (isiD (tabB .str)) (dVar 0)) (dUn (isiD (tabB .str)) (dVar 1))) (dOp oEq (dVar 0) (dVar 1)))))))
def m_same : Nat → List D → Option (R × List D)
  | 0 => fun _ => none
  | k + 1 => runD 4 (sm_same (m_same k))
/-- the state of the draws -/
def DrawOk (s : List D) : Prop := ∃ (l : List Int) (i big seed cnt : Int), s = [.lst (l.map .int), .int i, .int big, .int seed, .int cnt] ∧ 0 ≤ i ∧ i ≤ l.length ∧ 0 ≤ big ∧ 0 ≤ seed ∧ seed < 2147483579
theorem draw_spec {s : List D} {n : Int} (h : DrawOk s) (hn : 0 < n) (hn2 : n < 1073741824) : ∃ d s', m_draw [.pin (.lst s), .int n] = some (.ok (.int d), [.lst s']) ∧ 0 ≤ d ∧ d < n ∧ DrawOk s' := by
  have hn3 : ltI 1073741824 n = true := ltI_iff.mpr hn2
  have l71 : ltI 1073741824 71 = true := rfl
  obtain ⟨l, i, big, seed, cnt, rfl, h1, h2, h3, h4, h5⟩ := h
  have mm : ∀ x : Int, 0 ≤ x % n ∧ x % n < n := fun x => ⟨Int.emod_nonneg _ (by omega), Int.emod_lt_of_pos _ hn⟩
  have ms : ∀ x : Int, 0 ≤ x % 2147483579 ∧ x % 2147483579 < 2147483579 := fun x => ⟨by omega, by omega⟩
  by_cases c1 : big = 0
  · subst c1
    by_cases c2 : i < l.length
    · obtain ⟨j, rfl⟩ : ∃ j : Nat, i = j := ⟨i.toNat, by omega⟩
      have hj : j < l.length := by omega
      by_cases c3 : 1000000000000000000 ≤ l[j]
      · have c4 : 0 < l[j] := by omega
        refine ⟨l[j] % n, [.lst (l.map .int), .int (j + 1), .int (l[j] / n), .int seed, .int cnt], ?_, (mm _).1, (mm _).2, l, _, _, _, _, rfl, by omega, by omega, Int.ediv_nonneg (by omega) (by omega), h4, h5⟩
        simp [m_draw, runD, sm_draw, startD, seqS, ifS, andB, toB, dOp, bE, dIxS, slLst, dC, lift, atD, ixD, oEq, okD, deq, bB, cBB, retB, oLt, oI, dCall, bL, bA, aCons, bAA, mapA, aNil, shs, fLen, setS, bS, toS, putS, freeSl, oIx, stoS, slPut, oAdd, dVar, D.sh, oGe, oPow, oGt, fInt, oMod, oMul, oDiv, retS, fin, outsOf, nxS, c2, hj, c3, c4, hn, hn2, hn3, l71]
      · have sd := ms (seed * 44927 + l[j] % 2147483563 * 6121 + 59)
        generalize hs : (seed * 44927 + l[j] % 2147483563 * 6121 + 59) % 2147483579 = sd1 at sd
        have sb : (-18446744073709551616 < sd1 ∧ sd1 < 18446744073709551616) := by omega
        have sb2 : (-18446744073709551616 < l[j] % 2147483563 ∧ l[j] % 2147483563 < 18446744073709551616) := by omega
        refine ⟨(((sd1 * sd1 + sd1 * 28411 + (cnt + 1) * 1000669 + 90149) % 2147483579) / 71 + ((sd1 * sd1 + sd1 * 28411 + (cnt + 1) * 1000669 + 90149) % 2147483579) % 7907 * 47) % n, [.lst (l.map .int), .int (j + 1), .int 0, .int ((sd1 * sd1 + sd1 * 28411 + (cnt + 1) * 1000669 + 90149) % 2147483579), .int (cnt + 1)], ?_, (mm _).1, (mm _).2, l, _, _, _, _, rfl, by omega, by omega, by omega, (ms _).1, (ms _).2⟩
        simp [m_draw, runD, sm_draw, startD, seqS, ifS, andB, toB, dOp, bE, dIxS, slLst, dC, lift, atD, ixD, oEq, okD, deq, bB, cBB, retB, oLt, oI, dCall, bL, bA, aCons, bAA, mapA, aNil, shs, fLen, setS, bS, toS, putS, freeSl, oIx, stoS, slPut, oAdd, dVar, D.sh, oGe, oPow, oGt, fInt, oMod, oMul, oDiv, retS, fin, outsOf, nxS, c2, hj, c3, hn, hn2, hn3, l71, hs, sb, sb2]
    · refine ⟨(((seed * seed + seed * 28411 + (cnt + 1) * 1000669 + 90149) % 2147483579) / 71 + ((seed * seed + seed * 28411 + (cnt + 1) * 1000669 + 90149) % 2147483579) % 7907 * 47) % n, [.lst (l.map .int), .int i, .int 0, .int ((seed * seed + seed * 28411 + (cnt + 1) * 1000669 + 90149) % 2147483579), .int (cnt + 1)], ?_, (mm _).1, (mm _).2, l, _, _, _, _, rfl, by omega, by omega, by omega, (ms _).1, (ms _).2⟩
      have sb : (-18446744073709551616 < seed ∧ seed < 18446744073709551616) := by omega
      simp [m_draw, runD, sm_draw, startD, seqS, ifS, andB, toB, dOp, bE, dIxS, slLst, dC, lift, atD, ixD, oEq, okD, deq, bB, cBB, retB, oLt, oI, dCall, bL, bA, aCons, bAA, mapA, aNil, shs, fLen, setS, bS, toS, putS, freeSl, oIx, stoS, slPut, oAdd, dVar, D.sh, oGe, oPow, oGt, fInt, oMod, oMul, oDiv, retS, fin, outsOf, nxS, c2, hn, hn2, hn3, l71, sb]
  · have c2 : 0 < big := by omega
    have c5 : (big == 0) = false := by simpa using c1
    refine ⟨big % n, [.lst (l.map .int), .int i, .int (big / n), .int seed, .int cnt], ?_, (mm _).1, (mm _).2, l, _, _, _, _, rfl, by omega, by omega, Int.ediv_nonneg (by omega) (by omega), h4, h5⟩
    simp [m_draw, runD, sm_draw, startD, seqS, ifS, andB, toB, dOp, bE, dIxS, slLst, dC, lift, atD, ixD, oEq, okD, deq, bB, cBB, retB, oLt, oI, dCall, bL, bA, aCons, bAA, mapA, aNil, shs, fLen, setS, bS, toS, putS, freeSl, oIx, stoS, slPut, oAdd, dVar, D.sh, oGe, oPow, oGt, fInt, oMod, oMul, oDiv, retS, fin, outsOf, nxS, c1, c2, c5, hn, hn2, hn3, l71]
theorem of_spec {s xs : List D} (h : DrawOk s) (h0 : 0 < xs.length) (h1 : xs.length < 1073741824) : ∃ x s', x ∈ xs ∧ m_of [.pin (.lst s), .lst xs] = some (.ok x, [.lst s']) ∧ DrawOk s' := by
  obtain ⟨d, s', hd, h2, h3, h4⟩ := draw_spec (n := xs.length) h (by omega) (by omega)
  obtain ⟨j, rfl⟩ : ∃ j : Nat, d = j := ⟨d.toNat, by omega⟩
  have hj : j < xs.length := by omega
  refine ⟨xs[j], s', List.getElem_mem hj, ?_, h4⟩
  have e : m_draw [.pin (.lst s), .int xs.length] = some (.ok (.int j), [.lst s']) := hd
  simp [m_of, runD, sm_of, startD, retS, bS, dOp, bE, dVar, D.sh, needS, dCallS, bL, bA, aCons, bAA, mapA, dCall, aNil, shs, fLen, lift, callS, e, oIx, atD, ixD, hj, fin, outsOf]
theorem of_spec_str {s : List D} {xs : List Nat} (h : DrawOk s) (h0 : 0 < xs.length) (h1 : xs.length < 1073741824) : ∃ x s', x ∈ xs ∧ m_of [.pin (.lst s), .str xs] = some (.ok (.str [x]), [.lst s']) ∧ DrawOk s' := by
  obtain ⟨d, s', hd, h2, h3, h4⟩ := draw_spec (n := xs.length) h (by omega) (by omega)
  obtain ⟨j, rfl⟩ : ∃ j : Nat, d = j := ⟨d.toNat, by omega⟩
  have hj : j < xs.length := by omega
  refine ⟨xs[j], s', List.getElem_mem hj, ?_, h4⟩
  have e : m_draw [.pin (.lst s), .int xs.length] = some (.ok (.int j), [.lst s']) := hd
  simp [m_of, runD, sm_of, startD, retS, bS, dOp, bE, dVar, D.sh, needS, dCallS, bL, bA, aCons, bAA, mapA, dCall, aNil, shs, fLen, lift, callS, e, oIx, atD, ixD, hj, fin, outsOf]
/-- data that the law compares -/
def sameOk : Nat → D → Bool
  | _, .non => true
  | _, .bl _ => true
  | _, .int _ => true
  | _, .str _ => true
  | k + 1, .tup xs => decide (xs.length ≤ 16777216) && xs.all (sameOk k)
  | k + 1, .lst xs => decide (xs.length ≤ 16777216) && xs.all (sameOk k)
  | _, _ => false
theorem sameOk_sh {k : Nat} {d : D} (h : sameOk k d = true) : d.sh = true := by
  cases d <;> first | rfl | (cases k <;> simp [sameOk] at h)
theorem sh_bl {b : Bool} : D.sh (.bl b) = true := rfl
theorem same_lc {m : List D → Option (R × List D)} {a b : D} : ∀ (xs : List D) (u v : Option D), (∀ x ∈ xs, x.sh = true ∧ m [x, x] = some (.ok (.bl true), [])) →
    ∃ u' v', lcM (gmTup (gmCons (gmName 2) (gmCons (gmName 3) gmNil))) (retB true) (dCallN 2 m [] (aCons (dVar 2) (aCons (dVar 3) aNil))) [2, 3] (zipD xs xs) [some a, some b, u, v] = some (xs.map fun _ => .bl true, [some a, some b, u', v'])
  | [], u, v, _ => ⟨u, v, rfl⟩
  | x :: xs, u, v, h => by
    obtain ⟨hs, hm⟩ := h x (by simp)
    obtain ⟨u', v', e⟩ := same_lc (a := a) (b := b) xs (some x) (some x) fun y hy => h y (by simp [hy])
    have s1 : gmTup (gmCons (gmName 2) (gmCons (gmName 3) gmNil)) (.tup [x, x]) (wipeD [some a, some b, u, v] [2, 3]) = some [some a, some b, some x, some x] := by
      simp [wipeD, gmTup, gmCons, gmName, putS, freeSl, gmNil]
    have s2 : dCallN 2 m [] (aCons (dVar 2) (aCons (dVar 3) aNil)) [some a, some b, some x, some x] = some (.ok (.bl true), [some a, some b, some x, some x]) := by
      simp [dCallN, bL, bA, aCons, bAA, dVar, hs, mapA, aNil, shs, callN, callP, hm, sh_bl]
    refine ⟨u', v', ?_⟩
    simp only [zipD] at e
    simp only [zipD, List.zip_cons_cons, List.map_cons, lcM, s1, retB, s2, e]
theorem bools_true (xs : List D) : boolsOf (xs.map fun _ => .bl true) = some (xs.map fun _ => true) := by
  induction xs with
  | nil => rfl
  | cons x xs ih => simp [boolsOf, ih]
theorem same_dlc {m : List D → Option (R × List D)} {a : D} {zs : List D} (h1 : zs.length ≤ 16777216) (hz : iZipD (aCons (dVar 0) (aCons (dVar 1) aNil)) [some a, some a, none, none] = some (.ok (zipD zs zs), [some a, some a, none, none])) (h : ∀ x ∈ zs, x.sh = true ∧ m [x, x] = some (.ok (.bl true), [])) :
    dLc (iZipD (aCons (dVar 0) (aCons (dVar 1) aNil))) (gmTup (gmCons (gmName 2) (gmCons (gmName 3) gmNil))) (retB true) (dCallN 2 m [] (aCons (dVar 2) (aCons (dVar 3) aNil))) [2, 3] [some a, some a, none, none] = some (.ok (.lst (zs.map fun _ => .bl true)), [some a, some a, none, none]) := by
  obtain ⟨u', v', e⟩ := same_lc (a := a) (b := a) zs none none h
  have hl : (zipD zs zs).length ≤ 16777216 := by simpa [zipD] using h1
  unfold dLc
  rw [hz]
  simp only [plainSl, slotOf, List.all_cons, List.getElem?_cons_succ, List.getElem?_cons_zero, List.all_nil, hl, decide_true, Bool.and_self, if_true, e]
  rfl
theorem same_refl : ∀ (k : Nat) (d : D), sameOk k d = true → m_same (k + 1) [d, d] = some (.ok (.bl true), [])
  | k, .non, h => by simp [m_same, runD, sm_same, startD, seqS, ifS, truB, dUn, bE, bB, dVar, D.sh, lift, isiT, isiD, kindOf, tabB, BT.cd, retB, tru, nxS, orB, toB, isNonV, cBB, retS, andV, bS, dC, fin, outsOf]
  | k, .bl b, h => by simp [m_same, runD, sm_same, startD, seqS, ifS, truB, dUn, dOp, bE, bB, dVar, D.sh, lift, isiT, isiD, kindOf, tabB, BT.cd, retB, tru, nxS, orB, toB, isNonV, cBB, retS, andV, bS, dC, fin, outsOf, oNe, oEq, okD, deq]
  | k, .int b, h => by simp [m_same, runD, sm_same, startD, seqS, ifS, truB, dUn, dOp, bE, bB, dVar, D.sh, lift, isiT, isiD, kindOf, tabB, BT.cd, retB, tru, nxS, orB, toB, isNonV, cBB, retS, andV, bS, dC, fin, outsOf, oNe, oEq, okD, deq]
  | k, .str b, h => by simp [m_same, runD, sm_same, startD, seqS, ifS, truB, dUn, dOp, bE, bB, dVar, D.sh, lift, isiT, isiD, kindOf, tabB, BT.cd, retB, tru, nxS, orB, toB, isNonV, cBB, retS, andV, bS, dC, fin, outsOf, oNe, oEq, okD, deq]
  | k + 1, .tup xs, h => by
    simp only [sameOk, Bool.and_eq_true, decide_eq_true_eq, List.all_eq_true] at h
    obtain ⟨h1, h2⟩ := h
    have e2 := same_dlc (a := .tup xs) (zs := xs) (m := m_same (k + 1)) h1 (by simp [iZipD, bIA, liftI, aCons, bAA, mapA, aNil, shs, dVar, D.sh, bE]) fun x hx => ⟨sameOk_sh (h2 x hx), same_refl k x (h2 x hx)⟩
    show runD 4 (sm_same (m_same (k + 1))) _ = _
    unfold runD sm_same
    revert e2
    generalize dLc _ _ _ _ _ = G
    intro e2
    simp [startD, seqS, ifS, truB, dUn, dOp, bE, bB, dVar, D.sh, lift, isiT, isiD, kindOf, tabB, BT.cd, retB, tru, nxS, orB, toB, isNonV, cBB, retS, andV, bS, dC, fin, outsOf, oNe, oEq, okD, deq, dCall, bL, bA, aCons, bAA, mapA, aNil, shs, fLen, e2, fAll, bools_true]
  | k + 1, .lst xs, h => by
    simp only [sameOk, Bool.and_eq_true, decide_eq_true_eq, List.all_eq_true] at h
    obtain ⟨h1, h2⟩ := h
    have e2 := same_dlc (a := .lst xs) (zs := xs) (m := m_same (k + 1)) h1 (by simp [iZipD, bIA, liftI, aCons, bAA, mapA, aNil, shs, dVar, D.sh, bE]) fun x hx => ⟨sameOk_sh (h2 x hx), same_refl k x (h2 x hx)⟩
    show runD 4 (sm_same (m_same (k + 1))) _ = _
    unfold runD sm_same
    revert e2
    generalize dLc _ _ _ _ _ = G
    intro e2
    simp [startD, seqS, ifS, truB, dUn, dOp, bE, bB, dVar, D.sh, lift, isiT, isiD, kindOf, tabB, BT.cd, retB, tru, nxS, orB, toB, isNonV, cBB, retS, andV, bS, dC, fin, outsOf, oNe, oEq, okD, deq, dCall, bL, bA, aCons, bAA, mapA, aNil, shs, fLen, e2, fAll, bools_true]
  | 0, .tup xs, h => by simp [sameOk] at h
  | 0, .lst xs, h => by simp [sameOk] at h
  | k, .dic _ _, h => by cases k <;> simp [sameOk] at h
  | k, .ins _ _, h => by cases k <;> simp [sameOk] at h
  | k, .own _, h => by cases k <;> simp [sameOk] at h
  | k, .pin _, h => by cases k <;> simp [sameOk] at h
end DS
namespace DS
theorem wO_some {d : D} {Q : D → Prop} : wO (some d) Q ↔ Q d := Iff.rfl
/-- a slot that may be set -/
def okSl : Option D → Bool
  | some d => d.sh
  | none => true
/-! ### comprehensions without draws -/
theorem set_same {env : DEnv} {v : Nat} : env.set v (slotOf env v) = env := by
  unfold slotOf
  by_cases h : v < env.length
  · rw [List.getElem?_eq_getElem h]
    exact List.set_getElem_self h
  · rw [List.set_eq_of_length_le (by omega)]
theorem lc_pure {v : Nat} {tm : BM} {em : EM} {p : D → Bool} {φ : D → D} {env : DEnv} (hv : v < env.length) : ∀ (xs : List D), (∀ x ∈ xs, tm (env.set v (some x)) = some (.ok (p x), env.set v (some x))) → (∀ x ∈ xs, p x = true → em (env.set v (some x)) = some (.ok (φ x), env.set v (some x))) →
    ∀ o, ∃ o', lcM (gmName v) tm em [v] xs (env.set v o) = some ((xs.filter p).map φ, env.set v o')
  | [], _, _, o => ⟨o, rfl⟩
  | x :: xs, ht, he, o => by
    have hg : gmName v x (wipeD (env.set v o) [v]) = some (env.set v (some x)) := by
      simp only [gmName, wipeD, List.set_set, putS]
      rw [if_pos (by unfold freeSl; rw [List.getElem?_set_self hv])]
    have h1 := ht x (by simp)
    unfold lcM
    rw [hg]
    simp only
    rw [h1]
    cases q : p x with
    | true =>
      simp only
      rw [he x (by simp) q]
      obtain ⟨o', e⟩ := lc_pure hv xs (fun y hy => ht y (by simp [hy])) (fun y hy => he y (by simp [hy])) (some x)
      refine ⟨o', ?_⟩
      simp only
      rw [e, List.filter_cons_of_pos q]
      rfl
    | false =>
      obtain ⟨o', e⟩ := lc_pure hv xs (fun y hy => ht y (by simp [hy])) (fun y hy => he y (by simp [hy])) (some x)
      refine ⟨o', ?_⟩
      simp only
      rw [e, List.filter_cons_of_neg (by rw [q]; exact Bool.false_ne_true)]
theorem dLc_pure {im : IM} {v : Nat} {tm : BM} {em : EM} {env : DEnv} {xs : List D} (p : D → Bool) (φ : D → D) (hi : im env = some (.ok xs, env)) (hl : xs.length ≤ 16777216) (hv : v < env.length) (hp : okSl (slotOf env v) = true) (ht : ∀ x ∈ xs, tm (env.set v (some x)) = some (.ok (p x), env.set v (some x))) (he : ∀ x ∈ xs, p x = true → em (env.set v (some x)) = some (.ok (φ x), env.set v (some x))) :
    dLc im (gmName v) tm em [v] env = some (.ok (.lst ((xs.filter p).map φ)), env) := by
  obtain ⟨o', e⟩ := lc_pure hv xs ht he (slotOf env v)
  rw [set_same] at e
  unfold dLc
  rw [hi]
  have hps : plainSl env [v] = true := by
    unfold plainSl
    rw [List.all_cons, List.all_nil, Bool.and_true]
    unfold okSl at hp
    exact hp
  simp only
  rw [if_pos (by rw [hps, decide_eq_true hl]; rfl), e]
  simp only [restD, List.set_set, set_same]
/-- the same, no test -/
theorem dLc_map {im : IM} {v : Nat} {em : EM} {env : DEnv} {xs : List D} (φ : D → D) (hi : im env = some (.ok xs, env)) (hl : xs.length ≤ 16777216) (hv : v < env.length) (hp : okSl (slotOf env v) = true) (he : ∀ x ∈ xs, em (env.set v (some x)) = some (.ok (φ x), env.set v (some x))) :
    dLc im (gmName v) (retB true) em [v] env = some (.ok (.lst (xs.map φ)), env) := by
  have := dLc_pure (fun _ => true) φ hi hl hv hp (tm := retB true) (fun x hx => rfl) fun x hx _ => he x hx
  rwa [List.filter_eq_self.mpr fun _ _ => rfl] at this
theorem boolsOf_map (l : List Bool) : boolsOf (l.map D.bl) = some l := by
  induction l with
  | nil => rfl
  | cons x l ih => simp [boolsOf, ih]
theorem src_ok0 (ns : List Int) : DrawOk [.lst (ns.map .int), .int 0, .int 0, .int 10003, .int 0] := ⟨ns, 0, 0, 10003, 0, rfl, by omega, by omega, by omega, by omega, by omega⟩
theorem runLaw_of {n : Nat} {sm : SM} {ns : List Int} (h : ∀ s, DrawOk s → wS sm (none :: some (.own (.lst s)) :: List.replicate (n - 2) none) ⟨fun _ => False, fun d _ => d = .bl true, fun _ => False, fun _ => False, fun _ _ _ => False⟩) : runLaw n sm ns = some (.ok (.bl true), []) := by
  have q := h _ (src_ok0 (ns.take 63))
  unfold wS at q
  unfold runLaw
  split at q <;> rename_i z
  · exact q.elim
  · rw [z, q]; rfl
  · exact q.elim
  · exact q.elim
  · exact q.elim
  · exact q.elim
theorem freeSl_ok {env : DEnv} {i : Nat} {o : Option D} (h : env[i]? = some o) (ho : okSl o = true) : freeSl env i = true := by
  unfold freeSl
  rw [h]
  cases o with
  | none => rfl
  | some d => cases d <;> first | rfl | cases ho
theorem putS_ok {env : DEnv} {i : Nat} {o : Option D} {d : D} {Q : DEnv → Prop} (h : env[i]? = some o) (ho : okSl o = true) (q : Q (env.set i (some d))) : wG (putS i d env) Q := by
  unfold putS
  rw [freeSl_ok h ho]
  exact q
end DS
namespace DS
open PySem PySem.Spec L2
/-! ### comprehensions of two clauses -/
def lcM2 (gm : GM) (tm : BM) (im1 : IM) (gm1 : GM) (tm1 : BM) (em : EM) (vs vs1 : List Nat) : List D → DEnv → Option (List D × DEnv)
  | [], env => some ([], env)
  | d :: ds, env => match gm d (wipeD env vs) with
    | none => none
    | some e1 => (match tm e1 with
      | some (.ok true, e2) => (match im1 e2 with
        | some (.ok ys, e3) => (match lcM gm1 tm1 em vs1 ys e3 with
          | some (r, e4) => (match lcM2 gm tm im1 gm1 tm1 em vs vs1 ds e4 with
            | some (r2, e5) => some (r ++ r2, e5)
            | none => none)
          | none => none)
        | _ => none)
      | some (.ok false, e2) => lcM2 gm tm im1 gm1 tm1 em vs vs1 ds e2
      | _ => none)
def dLc2 (im : IM) (gm : GM) (tm : BM) (im1 : IM) (gm1 : GM) (tm1 : BM) (em : EM) (vs vs1 : List Nat) : EM := fun env => match im env with
  | some (.ok xs, e1) => (match lcM2 gm tm im1 gm1 tm1 em vs vs1 xs e1 with
    | some (ys, e2) => if (plainSl e1 vs && decide (ys.length ≤ 16777216)) = true then some (.ok (.lst ys), restD e1 e2 vs) else none
    | none => none)
  | some (.ex c fs, e) => some (.ex c fs, e)
  | none => none
section
variable {T : Tb} {X : Cx} {P : Nat → Option V} {W : WX} {K : PySem.W.Frag}
/-- what was gathered stands at Dn -/
structure LcS (T : Tb) (K : PySem.W.Frag) (P : Nat → Option V) (F1 : Hp) (g1 : Nat → List Addr) (H1 : Hp) (Dn : Addr) (vs : List Nat) (σ : L2.St) (env : DEnv) (acc : List D) (F2 : Hp) (g2 : Nat → List Addr) (H2 : Hp) : Prop where
  gr : Grow F1 g1 H1 F2 g2 H2
  ab : Abs T K P F2 g2 (wipeD env vs) (L2.wipe σ vs) H2
  em : ∀ j ∈ vs, g2 j = []
  at_ : ∃ accV, H2 Dn = some (.lst accV) ∧ Reps T K F2 acc accV
  fr : F2 Dn = none
  no : ∀ j, Dn ∉ g2 j
variable {F1 H1 : Hp} {g1 : Nat → List Addr} {Dn : Addr}
theorem wipe_sub {σ : L2.St} {vs vs1 : List Nat} (h : ∀ i ∈ vs1, i ∈ vs) : L2.wipe (L2.wipe σ vs1) vs = L2.wipe σ vs := wipe_eq (wipe_length _ _) fun j hj => wipe_out fun z => hj (h j z)
theorem wipeD_sub {env : DEnv} {vs vs1 : List Nat} (h : ∀ i ∈ vs1, i ∈ vs) : wipeD (wipeD env vs1) vs = wipeD env vs := by
  apply List.ext_getElem?
  intro j
  by_cases q : j ∈ vs
  · have key : ∀ (e : DEnv), (wipeD e vs)[j]? = if j < e.length then some none else none := fun e => by
      split
      · rename_i hl
        have hl' : j < (wipeD e vs).length := by rw [wipeD_length]; exact hl
        rw [List.getElem?_eq_getElem hl']
        cases z : (wipeD e vs)[j] with
        | none => rfl
        | some d => exact absurd (by rw [List.getElem?_eq_getElem hl', z]) (wipeD_in q d)
      · rw [List.getElem?_eq_none (by rw [wipeD_length]; omega)]
    rw [key, key, wipeD_length]
  · rw [wipeD_out q, wipeD_out q, wipeD_out fun z => q (h j z)]
/-- one walk that gathers -/
theorem lc_loop {tg : TG} {tt : TT} {te : TE} {gm : GM} {tm : BM} {em : EM} {ws vs : List Nat} (sg : SoundG T K P ws gm tg) (st : SoundB T K P W0 tm tt) (se : SoundE T K P W0 em te) (hw : ∀ i ∈ ws, i ∈ vs) {σ : L2.St}
    {F0 : Hp} {J : It} {xs : List D} (IT : IterD T K F0 J xs) {acc0 ys : List D} {env0 eN : DEnv} (hl : acc0.length + ys.length ≤ 16777216) (hf : lcM gm tm em vs xs env0 = some (ys, eN)) {F2 H2 : Hp} {g2 : Nat → List Addr} (s0 : Same F0 F2) (hD : H1 Dn = none) (S : LcS T K P F1 g1 H1 Dn vs σ env0 acc0 F2 g2 H2) (Nx : Hp → Prop)
    (hN : ∀ F3 g3 H3, LcS T K P F1 g1 H1 Dn vs σ eN (acc0 ++ ys) F3 g3 H3 → Nx H3) :
    ∃ W1 : Nat → Nat → Hp → Prop, (∃ m, W1 0 m H2) ∧ ∀ i m H, W1 i m H → (J.stop i H ∧ Nx H) ∨ (J.go i H ∧ ∃ Nx1 : Hp → Prop, (∀ H', Nx1 H' → ∃ m', m' < m ∧ W1 (i + 1) m' H') ∧
      ∀ x H', J.yld i H x H' → tg x (L2.wipe σ vs) H' fun σ2 H2 => L2.wipe σ2 vs = L2.wipe σ vs ∧ tt σ2 H2 fun b H3 => if b = true then te σ2 H3 fun y H4 => ∃ acc, H4 Dn = some (.lst acc) ∧ acc.length < sizeLine ∧ Nx1 (upd H4 Dn (.lst (acc ++ [y]))) else Nx1 H3) := by
  refine ⟨fun i m H' => m = xs.length - i ∧ i ≤ xs.length ∧ ∃ env2 F2 g2 acc rest, Same F0 F2 ∧ LcS T K P F1 g1 H1 Dn vs σ env2 (acc0 ++ acc) F2 g2 H' ∧ lcM gm tm em vs (xs.drop i) env2 = some (rest, eN) ∧ acc ++ rest = ys,
    ⟨xs.length, by simp, Nat.zero_le _, env0, F2, g2, [], ys, s0, by rw [List.append_nil]; exact S, by simpa using hf, rfl⟩, ?_⟩
  rintro i m H2 ⟨rfl, hi, env2, F2, g2, acc, rest, s0, S2, hf, hys⟩
  have sF : Same F0 H2 := s0.trans S2.ab.sub
  by_cases hlt : i < xs.length
  · obtain ⟨d, tl, hd, htl⟩ : ∃ d tl, xs.drop i = d :: tl ∧ xs.drop (i + 1) = tl := ⟨xs[i], xs.drop (i + 1), List.drop_eq_getElem_cons hlt, rfl⟩
    have hdi : xs[i]? = some d := by
      have : (xs.drop i)[0]? = some d := by rw [hd]; rfl
      simpa using this
    rw [hd] at hf
    unfold lcM at hf
    refine .inr ⟨IT.goes i H2 hlt sF, fun H' => ∃ env2 F2 g2 acc rest, Same F0 F2 ∧ LcS T K P F1 g1 H1 Dn vs σ env2 (acc0 ++ acc) F2 g2 H' ∧ lcM gm tm em vs (xs.drop (i + 1)) env2 = some (rest, eN) ∧ acc ++ rest = ys, fun H' p => ⟨xs.length - (i + 1), by omega, rfl, hlt, p⟩, fun x H' y => ?_⟩
    obtain ⟨d', F3, hd', N3, R3⟩ := IT.yld i H2 x H' hlt sF y F2 s0 S2.ab.sub
    rw [hdi] at hd'
    simp only [Option.some.injEq] at hd'
    subst hd'
    obtain ⟨accV, d2, r2⟩ := S2.at_
    have A3 := N3.abs S2.ab
    have NG := N3.grow S2.ab
    have G3 := S2.gr.trans NG
    have d3 : H' Dn = some (.lst accV) := NG.keep _ _ S2.no d2
    have f3 : F3 Dn = none := NG.fresh _ _ S2.no d2 S2.fr
    cases eg : gm d (wipeD env2 vs) with
    | none => rw [eg] at hf; cases hf
    | some env3 =>
      rw [eg] at hf
      refine sg d _ env3 eg F3 g2 _ H' x _ A3 R3 fun g4 σ4 hg4 A4 hl4 hz4 => ?_
      have n4 : ∀ j, Dn ∉ g4 j := fun j hj => S2.no j (hg4 j _ hj)
      have G4 : Grow F1 g1 H1 F3 g4 H' := G3.trans (grow_less fun i a h => ⟨i, hg4 i a h⟩)
      have wq : L2.wipe σ4 vs = L2.wipe (L2.wipe σ vs) vs := wipe_eq hl4 fun j hj => hz4 j fun z => hj (hw j z)
      have wq' : L2.wipe σ4 vs = L2.wipe σ vs := wq.trans wipe_wipe
      refine ⟨wq', ?_⟩
      simp only at hf
      cases et : tm env3 with
      | none => rw [et] at hf; cases hf
      | some q =>
        obtain ⟨ob, env4⟩ := q
        rw [et] at hf
        refine st env3 ob env4 et F3 g4 σ4 H' _ A4 ?_
        cases ob with
        | ex c fs => cases hf
        | ok k =>
          intro F5 g5 H5 G5 A5
          have d5 : H5 Dn = some (.lst accV) := G5.keep _ _ n4 d3
          have f5 : F5 Dn = none := G5.fresh _ _ n4 d3 f3
          have n5 : ∀ j, Dn ∉ g5 j := fun j hj => by
            rcases G5.new j _ hj with ⟨i, q⟩ | q
            · exact n4 i q
            · rw [d3] at q; cases q
          have nw : ∀ {g : Nat → List Addr}, (∀ j, Dn ∉ g j) → ∀ j, Dn ∉ (if j ∈ vs then [] else g j) := fun h j hj => by
            split at hj
            · cases hj
            · exact h j hj
          cases k with
          | false =>
            rw [if_neg Bool.false_ne_true]
            have A5' := A5.wipe vs
            rw [wq'] at A5'
            exact ⟨env4, F5, _, acc, rest, s0.trans (N3.up S2.ab.sub |>.trans G5.sub), ⟨(G4.trans G5).trans grow_wipe, A5', fun j hj => by simp [hj], ⟨accV, d5, Reps.mono (N3.up S2.ab.sub |>.trans G5.sub) _ _ r2⟩, f5, nw n5⟩, by rw [htl]; exact hf, hys⟩
          | true =>
            rw [if_pos rfl]
            simp only at hf
            cases ee : em env4 with
            | none => rw [ee] at hf; cases hf
            | some q =>
              obtain ⟨oe, env5⟩ := q
              rw [ee] at hf
              refine se env4 oe env5 ee F5 g5 σ4 H5 _ A5 ?_
              cases oe with
              | ex c fs => cases hf
              | ok y =>
                intro vy F6 g6 H6 G6 A6 R6
                simp only at hf
                cases er : lcM gm tm em vs tl env5 with
                | none => rw [er] at hf; cases hf
                | some q =>
                  obtain ⟨r', e6⟩ := q
                  rw [er] at hf
                  simp only [Option.some.injEq, Prod.mk.injEq] at hf
                  obtain ⟨rfl, rfl⟩ := hf
                  have d6 : H6 Dn = some (.lst accV) := G6.keep _ _ n5 d5
                  have f6 : F6 Dn = none := G6.fresh _ _ n5 d5 f5
                  have n6 : ∀ j, Dn ∉ g6 j := fun j hj => by
                    rcases G6.new j _ hj with ⟨i, q⟩ | q
                    · exact n5 i q
                    · rw [d5] at q; cases q
                  have la := r2.length
                  have ly := congrArg List.length hys
                  simp only [List.length_append, List.length_cons] at la ly
                  refine ⟨accV, d6, by rw [lim_eq]; omega, ?_⟩
                  have A6' := A6.wipe vs
                  rw [wq'] at A6'
                  exact ⟨env5, F6, _, acc ++ [y], r', s0.trans ((N3.up S2.ab.sub |>.trans G5.sub).trans G6.sub), ⟨grow_side (((G4.trans G5).trans G6).trans grow_wipe) hD, A6'.side f6 (nw n6), fun j hj => by simp [hj], ⟨accV ++ [vy], upd_same, by
                    rw [← List.append_assoc]
                    exact (Reps.mono ((N3.up S2.ab.sub |>.trans G5.sub).trans G6.sub) _ _ r2).append (Reps.cons R6 Reps.nil)⟩, f6, nw n6⟩, by rw [htl]; exact er, by rw [List.append_assoc]; exact hys⟩
  · have ei : i = xs.length := by omega
    subst ei
    rw [List.drop_length] at hf
    unfold lcM at hf
    simp only [Option.some.injEq, Prod.mk.injEq] at hf
    obtain ⟨rfl, rfl⟩ := hf
    rw [List.append_nil] at hys
    subst hys
    exact .inl ⟨IT.stops H2 sF, hN F2 g2 H2 S2⟩
theorem sound_lc2 {wi : TI} {tg : TG} {tt : TT} {wi1 : TI} {tg1 : TG} {tt1 : TT} {te : TE} {im : IM} {gm : GM} {tm : BM} {im1 : IM} {gm1 : GM} {tm1 : BM} {em : EM} {ws ws1 vs vs1 : List Nat} (si : SoundI T K P W im wi) (sg : SoundG T K P ws gm tg) (st : SoundB T K P W0 tm tt)
    (si1 : SoundI T K P W0 im1 wi1) (sg1 : SoundG T K P ws1 gm1 tg1) (st1 : SoundB T K P W0 tm1 tt1) (se : SoundE T K P W0 em te) (hw : ∀ i ∈ ws, i ∈ vs) (hw1 : ∀ i ∈ ws1, i ∈ vs1) (hv : ∀ i ∈ vs1, i ∈ vs) :
    SoundE T K P W (dLc2 im gm tm im1 gm1 tm1 em vs vs1) (tLc2 wi tg tt wi1 tg1 tt1 te vs vs1) := by
  intro env o env' h F g σ H Q A post
  unfold dLc2 at h
  cases e1 : im env with
  | none => rw [e1] at h; cases h
  | some q =>
    obtain ⟨ri, e2⟩ := q
    rw [e1] at h
    refine si env ri e2 e1 F g σ H _ A ?_
    cases ri with
    | ex c fs =>
      simp only [Option.some.injEq, Prod.mk.injEq] at h
      obtain ⟨rfl, rfl⟩ := h
      exact post
    | ok xs =>
      simp only at h
      intro J F1 g1 H1 G1 A1 IT Dn hD
      cases eL : lcM2 gm tm im1 gm1 tm1 em vs vs1 xs e2 with
      | none => rw [eL] at h; cases h
      | some qq =>
        obtain ⟨ys, eN⟩ := qq
        rw [eL] at h
        simp only at h
        split at h
        · rename_i hpl
          obtain ⟨pl, hlen⟩ := Bool.and_eq_true_iff.mp hpl
          have hlen := of_decide_eq_true hlen
          simp only [Option.some.injEq, Prod.mk.injEq] at h
          obtain ⟨rfl, rfl⟩ := h
          have fD : F1 Dn = none := A1.sub.free hD
          have gD : ∀ i, Dn ∉ g1 i := fun i hi => by
            obtain ⟨_, u, e⟩ := A1.inn i _ hi
            rw [hD] at e; cases e
          have nw : ∀ {g : Nat → List Addr}, (∀ j, Dn ∉ g j) → ∀ j, Dn ∉ (if j ∈ vs then [] else g j) := fun h j hj => by
            split at hj
            · cases hj
            · exact h j hj
          have nw1 : ∀ {g : Nat → List Addr}, (∀ j, Dn ∉ g j) → ∀ j, Dn ∉ (if j ∈ vs1 then [] else g j) := fun h j hj => by
            split at hj
            · cases hj
            · exact h j hj
          refine ⟨fun i m H' => m = xs.length - i ∧ i ≤ xs.length ∧ ∃ env2 F2 g2 acc rest, LcS T K P F1 g1 H1 Dn vs σ env2 acc F2 g2 H' ∧ lcM2 gm tm im1 gm1 tm1 em vs vs1 (xs.drop i) env2 = some (rest, eN) ∧ acc ++ rest = ys,
            ⟨xs.length, by simp, Nat.zero_le _, e2, F1, fun j => if j ∈ vs then [] else g1 j, [], ys, ⟨grow_side grow_wipe hD, (A1.wipe vs).side fD (nw gD), fun j hj => by simp [hj], ⟨[], upd_same, Reps.nil⟩, fD, nw gD⟩, by simpa using eL, rfl⟩, ?_⟩
          rintro i m H2 ⟨rfl, hi, env2, F2, g2, acc, rest, S2, hf, hys⟩
          have sF : Same F1 H2 := S2.gr.sub.trans S2.ab.sub
          by_cases hlt : i < xs.length
          · obtain ⟨d, tl, hd, htl⟩ : ∃ d tl, xs.drop i = d :: tl ∧ xs.drop (i + 1) = tl := ⟨xs[i], xs.drop (i + 1), List.drop_eq_getElem_cons hlt, rfl⟩
            have hdi : xs[i]? = some d := by
              have : (xs.drop i)[0]? = some d := by rw [hd]; rfl
              simpa using this
            rw [hd] at hf
            unfold lcM2 at hf
            refine .inr ⟨IT.goes i H2 hlt sF, fun H' => ∃ env2 F2 g2 acc rest, LcS T K P F1 g1 H1 Dn vs σ env2 acc F2 g2 H' ∧ lcM2 gm tm im1 gm1 tm1 em vs vs1 (xs.drop (i + 1)) env2 = some (rest, eN) ∧ acc ++ rest = ys, fun H' p => ⟨xs.length - (i + 1), by omega, rfl, hlt, p⟩, fun x H' y => ?_⟩
            obtain ⟨d', F3, hd', N3, R3⟩ := IT.yld i H2 x H' hlt sF y F2 S2.gr.sub S2.ab.sub
            rw [hdi] at hd'
            simp only [Option.some.injEq] at hd'
            subst hd'
            obtain ⟨accV, d2, r2⟩ := S2.at_
            have A3 := N3.abs S2.ab
            have NG := N3.grow S2.ab
            have G3 := S2.gr.trans NG
            have d3 : H' Dn = some (.lst accV) := NG.keep _ _ S2.no d2
            have f3 : F3 Dn = none := NG.fresh _ _ S2.no d2 S2.fr
            cases eg : gm d (wipeD env2 vs) with
            | none => rw [eg] at hf; cases hf
            | some env3 =>
              rw [eg] at hf
              refine sg d _ env3 eg F3 g2 _ H' x _ A3 R3 fun g4 σ4 hg4 A4 hl4 hz4 => ?_
              have n4 : ∀ j, Dn ∉ g4 j := fun j hj => S2.no j (hg4 j _ hj)
              have G4 : Grow F1 g1 H1 F3 g4 H' := G3.trans (grow_less fun i a h => ⟨i, hg4 i a h⟩)
              have wq : L2.wipe σ4 vs = L2.wipe (L2.wipe σ vs) vs := wipe_eq hl4 fun j hj => hz4 j fun z => hj (hw j z)
              have wq' : L2.wipe σ4 vs = L2.wipe σ vs := wq.trans wipe_wipe
              refine ⟨wq', ?_⟩
              simp only at hf
              cases et : tm env3 with
              | none => rw [et] at hf; cases hf
              | some q =>
                obtain ⟨ob, env4⟩ := q
                rw [et] at hf
                refine st env3 ob env4 et F3 g4 σ4 H' _ A4 ?_
                cases ob with
                | ex c fs => cases hf
                | ok k =>
                  intro F5 g5 H5 G5 A5
                  have d5 : H5 Dn = some (.lst accV) := G5.keep _ _ n4 d3
                  have f5 : F5 Dn = none := G5.fresh _ _ n4 d3 f3
                  have n5 : ∀ j, Dn ∉ g5 j := fun j hj => by
                    rcases G5.new j _ hj with ⟨i, q⟩ | q
                    · exact n4 i q
                    · rw [d3] at q; cases q
                  cases k with
                  | false =>
                    rw [if_neg Bool.false_ne_true]
                    have A5' := A5.wipe vs
                    rw [wq'] at A5'
                    exact ⟨env4, F5, _, acc, rest, ⟨(G4.trans G5).trans grow_wipe, A5', fun j hj => by simp [hj], ⟨accV, d5, Reps.mono (N3.up S2.ab.sub |>.trans G5.sub) _ _ r2⟩, f5, nw n5⟩, by rw [htl]; exact hf, hys⟩
                  | true =>
                    rw [if_pos rfl]
                    simp only at hf
                    cases ei1 : im1 env4 with
                    | none => rw [ei1] at hf; cases hf
                    | some q =>
                      obtain ⟨r1, env5⟩ := q
                      rw [ei1] at hf
                      refine si1 env4 r1 env5 ei1 F5 g5 σ4 H5 _ A5 ?_
                      cases r1 with
                      | ex c fs => cases hf
                      | ok zs =>
                        intro J1 F6 g6 H6 G6 A6 IT1
                        simp only at hf
                        cases er : lcM gm1 tm1 em vs1 zs env5 with
                        | none => rw [er] at hf; cases hf
                        | some q =>
                          obtain ⟨r', env6⟩ := q
                          rw [er] at hf
                          simp only at hf
                          cases er2 : lcM2 gm tm im1 gm1 tm1 em vs vs1 tl env6 with
                          | none => rw [er2] at hf; cases hf
                          | some q =>
                            obtain ⟨r2', env7⟩ := q
                            rw [er2] at hf
                            simp only [Option.some.injEq, Prod.mk.injEq] at hf
                            obtain ⟨rfl, rfl⟩ := hf
                            have d6 : H6 Dn = some (.lst accV) := G6.keep _ _ n5 d5
                            have f6 : F6 Dn = none := G6.fresh _ _ n5 d5 f5
                            have n6 : ∀ j, Dn ∉ g6 j := fun j hj => by
                              rcases G6.new j _ hj with ⟨i, q⟩ | q
                              · exact n5 i q
                              · rw [d5] at q; cases q
                            have ly := congrArg List.length hys
                            simp only [List.length_append] at ly
                            have A6' := A6.wipe vs1
                            refine lc_loop (acc0 := acc) (F1 := F1) (g1 := g1) (H1 := H1) (env0 := env5) sg1 st1 se hw1 IT1 (by omega) er (F2 := F6) (g2 := fun j => if j ∈ vs1 then [] else g6 j) (Same.refl F6) hD
                              ⟨((G4.trans G5).trans G6).trans grow_wipe, A6', fun j hj => by simp [hj], ⟨accV, d6, Reps.mono ((N3.up S2.ab.sub |>.trans G5.sub).trans G6.sub) _ _ r2⟩, f6, nw1 n6⟩ _ fun F7 g7 H7 S7 => ?_
                            have A7 := S7.ab.wipe vs
                            rw [wipe_sub hv, wipeD_sub hv, wq'] at A7
                            exact ⟨env6, F7, _, acc ++ r', r2', ⟨S7.gr.trans grow_wipe, A7, fun j hj => by simp [hj], S7.at_, S7.fr, nw S7.no⟩, by rw [htl]; exact er2, by rw [List.append_assoc]; exact hys⟩
          · have ei : i = xs.length := by omega
            subst ei
            rw [List.drop_length] at hf
            unfold lcM2 at hf
            simp only [Option.some.injEq, Prod.mk.injEq] at hf
            obtain ⟨rfl, rfl⟩ := hf
            rw [List.append_nil] at hys
            subst hys
            obtain ⟨accV, d2, r2⟩ := S2.at_
            refine .inl ⟨IT.stops H2 sF, ?_⟩
            have B := (Abs.rest A1 S2.gr.sub pl S2.ab S2.em).freeze d2 S2.fr S2.no
            refine post _ _ g2 H2 (grow_freeze (G1.trans S2.gr) S2.fr (G1.back (.inr hD))) B ?_
            simp only [Rep]
            exact ⟨Dn, accV, rfl, upd_same, Reps.mono (fun b u e => by rw [upd_ne (ne_of_none e S2.fr)]; exact e) _ _ r2⟩
        · cases h
def tOfI (T : Tb) (K : PySem.W.Frag) (P : Nat → Option V) (W : WX) (f : IM) : TI := fun σ H R => ∃ env r env' F g, f env = some (r, env') ∧ Abs T K P F g env σ H ∧ PostI T K P W env' F g σ H R r
theorem sound_tOfI {f : IM} : SoundI T K P W f (tOfI T K P W f) := fun env r env' h F g σ H Q A post => ⟨env, r, env', F, g, h, A, post⟩
theorem DI.pi {tg e : Expr} {f : IM} (h : DI T X P W tg e f) : PI X tg e (tOfI T X.K P W f) := by
  obtain ⟨t, p, s⟩ := h.ex
  refine ⟨fun pins st σ H R I q => ?_⟩
  obtain ⟨env, r, env', F, g, e1, A, post⟩ := q
  exact p.run pins st σ H R I (s env r env' e1 F g σ H R A post)
variable {elt tg iter tg1 iter1 : Expr} {ifs ifs1 : List Expr} {scope : Scope} {own : List (Str × Nat)} {pos : Pos} {im im1 : IM} {gm gm1 : GM} {tm tm1 : BM} {em : EM} {ws ws1 : List Nat}
theorem de_lc2 (vs1 : List Nat) (hc : X.calm = true) (hN : X.N.Nodup) (hi : DI T X P W tg iter im) (ok : BlkOk X.N X.env.scope scope own) (hv : ∀ i ∈ vs1, i ∈ own.map (·.2))
    (hg : ∀ (s : Shared) (H : Hp) (C : Addr) (cl : List (Str × Addr)) (fp : List Addr), DG T (X.blk s H scope (compEnvC scope cl C X.env) fp) P tg ws gm) (ht : ∀ (s : Shared) (H : Hp) (C : Addr) (cl : List (Str × Addr)) (fp : List Addr), DTs T (X.blk s H scope (compEnvC scope cl C X.env) fp) P W0 ifs tm)
    (hi1 : ∀ (s : Shared) (H : Hp) (C : Addr) (cl : List (Str × Addr)) (fp : List Addr), DI T (X.blk s H scope (compEnvC scope cl C X.env) fp) P W0 tg1 iter1 im1)
    (hg1 : ∀ (s : Shared) (H : Hp) (C : Addr) (cl : List (Str × Addr)) (fp : List Addr), DG T (X.blk s H scope (compEnvC scope cl C X.env) fp) P tg1 ws1 gm1) (ht1 : ∀ (s : Shared) (H : Hp) (C : Addr) (cl : List (Str × Addr)) (fp : List Addr), DTs T (X.blk s H scope (compEnvC scope cl C X.env) fp) P W0 ifs1 tm1)
    (he : ∀ (s : Shared) (H : Hp) (C : Addr) (cl : List (Str × Addr)) (fp : List Addr), DE T (X.blk s H scope (compEnvC scope cl C X.env) fp) P W0 elt em) (hw : ∀ i ∈ ws, i ∈ own.map (·.2)) (hw1 : ∀ i ∈ ws1, i ∈ vs1) (hs : ∀ x, foldedSetIterable iter X.env x = pure x) (hs1 : ∀ (env : Env) x, foldedSetIterable iter1 env x = pure x) :
    DE T X P W (.ListComp elt [⟨tg, iter, ifs, 0⟩, ⟨tg1, iter1, ifs1, 0⟩] scope pos) (dLc2 im gm tm im1 gm1 tm1 em (own.map (·.2)) vs1) := by
  obtain ⟨ti, pi, si⟩ := hi.ex
  exact ⟨_, pe_lc2 hc hN pi ok hv (fun s H C cl fp => (hg s H C cl fp).pg) (fun s H C cl fp => (ht s H C cl fp).ex) (fun s H C cl fp => (hi1 s H C cl fp).pi) (fun s H C cl fp => (hg1 s H C cl fp).pg) (fun s H C cl fp => (ht1 s H C cl fp).ex) (fun s H C cl fp => (he s H C cl fp).pe) hs hs1,
    sound_lc2 si sound_tOfG (sound_tOfB tm) sound_tOfI sound_tOfG (sound_tOfB tm1) (sound_tOf em) hw hw1 hv⟩
theorem ds_setLc2 (vs1 : List Nat) {i : Nat} {y : Str} {py spos : Pos} (hc : X.calm = true) (hN : X.N.Nodup) (hy : X.N[i]? = some y) (hyl : X.env.scope.names.lookup y = some .local)
    (hsw : swapsWith (.ListComp elt [⟨tg, iter, ifs, 0⟩, ⟨tg1, iter1, ifs1, 0⟩] scope pos) (some (.Name y py)) spos.line X.env = pure true) (hi : DI T X P W tg iter im) (ok : BlkOk X.N X.env.scope scope own) (hv : ∀ i ∈ vs1, i ∈ own.map (·.2))
    (hg : ∀ (s : Shared) (H : Hp) (C : Addr) (cl : List (Str × Addr)) (fp : List Addr), DG T (X.blk s H scope (compEnvC scope cl C X.env) fp) P tg ws gm) (ht : ∀ (s : Shared) (H : Hp) (C : Addr) (cl : List (Str × Addr)) (fp : List Addr), DTs T (X.blk s H scope (compEnvC scope cl C X.env) fp) P W0 ifs tm)
    (hi1 : ∀ (s : Shared) (H : Hp) (C : Addr) (cl : List (Str × Addr)) (fp : List Addr), DI T (X.blk s H scope (compEnvC scope cl C X.env) fp) P W0 tg1 iter1 im1)
    (hg1 : ∀ (s : Shared) (H : Hp) (C : Addr) (cl : List (Str × Addr)) (fp : List Addr), DG T (X.blk s H scope (compEnvC scope cl C X.env) fp) P tg1 ws1 gm1) (ht1 : ∀ (s : Shared) (H : Hp) (C : Addr) (cl : List (Str × Addr)) (fp : List Addr), DTs T (X.blk s H scope (compEnvC scope cl C X.env) fp) P W0 ifs1 tm1)
    (he : ∀ (s : Shared) (H : Hp) (C : Addr) (cl : List (Str × Addr)) (fp : List Addr), DE T (X.blk s H scope (compEnvC scope cl C X.env) fp) P W0 elt em) (hw : ∀ i ∈ ws, i ∈ own.map (·.2)) (hw1 : ∀ i ∈ ws1, i ∈ vs1) (hs : ∀ x, foldedSetIterable iter X.env x = pure x) (hs1 : ∀ (env : Env) x, foldedSetIterable iter1 env x = pure x) :
    DS1 T X P W (.Assign [.Name y py] (.ListComp elt [⟨tg, iter, ifs, 0⟩, ⟨tg1, iter1, ifs1, 0⟩] scope pos) spos) (setS i (dLc2 im gm tm im1 gm1 tm1 em (own.map (·.2)) vs1)) := by
  obtain ⟨ti, pi, si⟩ := hi.ex
  exact ⟨_, ps_setLc2 hc hN hy hyl hsw pi ok hv (fun s H C cl fp => (hg s H C cl fp).pg) (fun s H C cl fp => (ht s H C cl fp).ex) (fun s H C cl fp => (hi1 s H C cl fp).pi) (fun s H C cl fp => (hg1 s H C cl fp).pg) (fun s H C cl fp => (ht1 s H C cl fp).ex) (fun s H C cl fp => (he s H C cl fp).pe) hs hs1,
    sound_set (sound_lc2 si sound_tOfG (sound_tOfB tm) sound_tOfI sound_tOfG (sound_tOfB tm1) (sound_tOf em) hw hw1 hv)⟩
end
end DS
namespace DS
open PySem PySem.Spec L2
section
variable {T : Tb} {X : Cx} {P : Nat → Option V} {W : WX} {K : PySem.W.Frag} {F F' F1 H H' H1 : Hp} {g g1 : Nat → List Addr} {env env' : DEnv} {σ σ' : L2.St}
/-! ### an owned thing becomes plain -/
def frzD : D → Bool
  | .lst _ => true
  | .dic _ _ => true
  | .ins _ fs => fs.all fun p => p.2.sh
  | _ => false
theorem fldO_plain : ∀ {fs : List (Nat × D)} {l : List (Str × V)} {fp : List Addr}, (fs.all fun p => p.2.sh) = true → FldO T K F H fs l fp → fp = [] ∧ RepF T K F fs l
  | [], l, fp, _, h => by
    simp only [FldO] at h
    obtain ⟨rfl, rfl⟩ := h
    exact ⟨rfl, by simp only [RepF]⟩
  | (j, c) :: r, l, fp, hs, h => by
    rw [List.all_cons, Bool.and_eq_true] at hs
    simp only [FldO] at h
    obtain ⟨n, w, l', f1, f2, rfl, rfl, h1, h2, h3, h4⟩ := h
    obtain ⟨q1, q2⟩ := fldO_plain hs.2 h4
    obtain ⟨q3, q4⟩ := (repO_sh hs.1).mp h3
    refine ⟨by rw [q1, q3]; rfl, ?_⟩
    simp only [RepF]
    exact ⟨n, w, l', rfl, h2, q4, q2⟩
theorem rep_frz {d : D} {v : V} {fp : List Addr} (hd : frzD d = true) (h : RepO T K F H (.own d) v fp) : ∃ a o, fp = [a] ∧ F a = none ∧ H a = some o ∧ Rep T K (upd F a o) d v := by
  have up : ∀ {a : Addr} {o : HO}, F a = none → Same F (upd F a o) := fun hf b u e => by rw [upd_ne (ne_of_none e hf)]; exact e
  cases d with
  | lst xs =>
    simp only [RepO] at h
    obtain ⟨a, vs, rfl, hg, hf, hh, r⟩ := h
    refine ⟨a, _, hg, hf, hh, ?_⟩
    simp only [Rep]
    exact ⟨a, vs, rfl, upd_same, r.mono (up hf)⟩
  | dic t kvs =>
    simp only [RepO] at h
    obtain ⟨a, rfl, hg, hf, hh⟩ := h
    rcases hh with ⟨ht, l, hh, r⟩ | ⟨ht, l, hh, r⟩
    · refine ⟨a, _, hg, hf, hh, ?_⟩
      simp only [Rep]
      exact ⟨a, rfl, .inl ⟨ht, l, upd_same, RepK.mono (up hf) _ _ r⟩⟩
    · refine ⟨a, _, hg, hf, hh, ?_⟩
      simp only [Rep]
      exact ⟨a, rfl, .inr ⟨ht, l, upd_same, RepT.mono (up hf) _ _ r⟩⟩
  | ins c fs =>
    simp only [RepO] at h
    obtain ⟨a, dx, n, l, fq, rfl, hg, _, hf, hc, hh, hfl⟩ := h
    obtain ⟨rfl, hr⟩ := fldO_plain hd hfl
    refine ⟨a, _, hg, hf, hh, ?_⟩
    simp only [Rep]
    exact ⟨a, dx, n, l, rfl, hc, upd_same, RepF.mono (up hf) _ _ hr⟩
  | _ => cases hd
/-- a variable's value; what it owns becomes plain -/
def dVarF (i : Nat) : EM := fun env => match env[i]? with
  | some (some (.own d)) => if frzD d = true then some (.ok d, env.set i (some d)) else none
  | some (some d) => if d.sh = true then some (.ok d, env) else none
  | _ => none
theorem grow_frz {a : Addr} {o : HO} {i : Nat} {g2 : Nat → List Addr} (hf : F a = none) (ha : a ∈ g i) (hg : ∀ j b, b ∈ g2 j → ∃ k, b ∈ g k) : Grow F g H (upd F a o) g2 H := by
  refine ⟨fun b u e => by rw [upd_ne (ne_of_none e hf)]; exact e, fun _ _ _ h => h, fun b u h e q => ?_, fun j b h => .inl (hg j b h)⟩
  rw [upd_ne fun z => h i (by rw [z]; exact ha)]; exact q
theorem sound_varF (i : Nat) : SoundE T K P W (dVarF i) (tVar i) := by
  intro env r env' h F g σ H Q A post
  unfold dVarF at h
  split at h
  · rename_i d e
    split at h
    · rename_i hd
      simp only [Option.some.injEq, Prod.mk.injEq] at h
      obtain ⟨rfl, rfl⟩ := h
      obtain ⟨v, h1, h2⟩ := A.at_ i _ e
      rw [slotO_own] at h2
      obtain ⟨a, o, hg, hf, hh, hr⟩ := rep_frz hd h2
      have hi : i < env.length := (List.getElem?_eq_some_iff.mp e).1
      have B := A.drop i (w := some v)
      have es : σ.set i (some v) = σ := by
        obtain ⟨hl, ee⟩ := List.getElem?_eq_some_iff.mp h1
        rw [← ee]; exact List.set_getElem_self hl
      rw [es] at B
      have nb : ∀ j, a ∉ (if j = i then [] else g j) := fun j hj => by
        split at hj
        · cases hj
        · rename_i ne
          exact ne (A.dis j i a hj (by rw [hg]; simp))
      have C := B.freeze hh hf nb
      have E := C.set (i := i) (d := d) (v := v) (by simpa using hi) (by simp) hr
      rw [List.set_set, es] at E
      refine ⟨v, h1, post v _ _ H (grow_frz hf (i := i) (by rw [hg]; simp) fun j b hb => ?_) E hr⟩
      split at hb
      · cases hb
      · exact ⟨j, hb⟩
    · cases h
  · rename_i d hno e
    split at h
    · rename_i s
      simp only [Option.some.injEq, Prod.mk.injEq] at h
      obtain ⟨rfl, rfl⟩ := h
      obtain ⟨v, h1, h2⟩ := A.at_ i d e
      exact ⟨v, h1, post v F g H (Grow.refl _ _ _) A ((slotO_sh s).mp h2).2⟩
    · cases h
  · cases h
theorem de_varF {e : Expr} {i : Nat} (h : PE X e (tVar i)) : DE T X P W e (dVarF i) := ⟨_, h, sound_varF i⟩
/-- an owned value, taken as plain -/
def dFrz (f : EM) : EM := fun env => match f env with
  | some (.ok d, e) => if frzD d = true then some (.ok d, e) else none
  | some (.ex c fs, e) => some (.ex c fs, e)
  | none => none
theorem de_frz {e : Expr} {f : EM} (h : DO T X P W e f) : DE T X P W e (dFrz f) := by
  obtain ⟨t, p, so⟩ := h.ex
  refine ⟨t, p, fun env r env' h F g σ H Q A post => ?_⟩
  unfold dFrz at h
  cases e1 : f env with
  | none => rw [e1] at h; cases h
  | some q =>
    obtain ⟨ro, e2⟩ := q
    rw [e1] at h
    refine so env ro e2 e1 F g σ H Q A ?_
    cases ro with
    | ex c fs =>
      simp only [Option.some.injEq, Prod.mk.injEq] at h
      obtain ⟨rfl, rfl⟩ := h
      exact post
    | ok d =>
      simp only at h
      split at h
      · rename_i hd
        simp only [Option.some.injEq, Prod.mk.injEq] at h
        obtain ⟨rfl, rfl⟩ := h
        intro v fp F1 g1 H1 G1 A1 R1 n1 m1
        obtain ⟨a, o, rfl, hf, hh, hr⟩ := rep_frz hd R1
        have na : ∀ i, a ∉ g1 i := fun i => n1 i a (by simp)
        exact post v _ g1 H1 (grow_freeze G1 hf (m1 a (by simp))) (A1.freeze hh hf na) hr
      · cases h
/-- return of a variable: what it owns is given away -/
def retV (i : Nat) : SM := fun env => match env[i]? with
  | some (some (.own d)) => some (.rt (.own d), env.set i none)
  | some (some d) => if d.sh = true then some (.rt d, env) else none
  | _ => none
/-! ### calls that give an owned thing -/
def callPO (m : List D → Option (R × List D)) (ds : List D) : EM := fun env => match m ds with
  | some (.ok (.own d), []) => some (.ok d, env)
  | some (.ex c fs, []) => some (.ex c fs, env)
  | _ => none
def callNO (n : Nat) (m : List D → Option (R × List D)) (ds : List D) : EM := if ds.length = n then callPO m ds else lift none
def dCallNO (n : Nat) (m : List D → Option (R × List D)) (fa : AM) : EM := bL fa (callNO n m)
theorem PostO.grow {Q : VK} {r : R} (h : PostO T K P W env' F g σ H Q r) (G : Grow F g H F1 g1 H1) : PostO T K P W env' F1 g1 σ H1 Q r := by
  cases r with
  | ok d => exact fun v fp F' g' H' G' A R n m => h v fp F' g' H' (G.trans G') A R n fun x hx => G.back (m x hx)
  | ex c fs => exact ExE.grow h G
theorem PostO.exx {Q : VK} {r : R} (h : PostO T K P W env' F g σ H Q r) : ∀ c fs, r = .ex c fs → ExE T K P W env' F g σ H c fs := fun c fs e => by subst e; exact h
/-! ### owned things lent to a call that answers a plain scalar -/
def scal : D → Bool
  | .non => true
  | .bl _ => true
  | .int _ => true
  | .str _ => true
  | _ => false
def lent (env : DEnv) : List Ag → Option (List D)
  | [] => some []
  | .sh d :: r => (lent env r).map (d :: ·)
  | .sl j :: r => match env[j]? with
    | some (some (.own d)) => if frzD d = true then (lent env r).map (d :: ·) else none
    | _ => none
def callB (n : Nat) (m : List D → Option (R × List D)) (as : List Ag) : EM := fun env => match lent env as with
  | some ds => if ds.length = n then (match m ds with
    | some (.ok d, []) => if scal d = true then some (.ok d, env) else none
    | _ => none) else none
  | none => none
def dCallB (n : Nat) (m : List D → Option (R × List D)) (fa : AM) : EM := bA fa (callB n m)
variable {elt tg iter tg1 iter1 : Expr} {ifs ifs1 : List Expr} {scope : Scope} {own : List (Str × Nat)} {pos : Pos} {im im1 : IM} {gm gm1 : GM} {tm tm1 : BM} {em : EM} {ws ws1 : List Nat}
end
end DS
namespace DS
open PySem PySem.Spec L2
/-! ### texts put together -/
def strsOf : List D → Option (List (List Nat))
  | [] => some []
  | .str x :: r => (strsOf r).map (x :: ·)
  | _ :: _ => none
def joinL (sep : List Nat) (parts : List (List Nat)) : List Nat := (parts.drop 1).foldl (fun acc p => acc ++ sep ++ p) (parts.headD [])
def joinD (a : List Nat) (x : D) : Option D := match itemsOf x with
  | some xs => (match strsOf xs with
    | some ys => if ((ys.map List.length).sum + ys.length * a.length ≤ 16777216 && strB (joinL a ys)) = true then some (.str (joinL a ys)) else none
    | none => none)
  | none => none
def dJoin (fo fe : EM) : EM := bE fo fun s => match s with
  | .str a => bE fe fun x => lift (joinD a x)
  | _ => lift none
def toStr (l : List Nat) : Str := ⟨l.toArray⟩
section
variable {T : Tb} {X : Cx} {P : Nat → Option V} {W : WX} {K : PySem.W.Frag} {F F' F1 H H' H1 : Hp} {g g1 : Nat → List Addr} {env env' : DEnv} {σ σ' : L2.St}
theorem strsOf_reps : ∀ {ds : List D} {ys : List (List Nat)} {vs : List V}, strsOf ds = some ys → Reps T K F ds vs → vs = (ys.map toStr).map V.str
  | [], ys, vs, h, r => by simp only [strsOf, Option.some.injEq] at h; simp only [Reps] at r; subst h; subst r; rfl
  | .str x :: ds, ys, vs, h, r => by
    simp only [strsOf, Option.map_eq_some_iff] at h
    obtain ⟨ys', h, rfl⟩ := h
    obtain ⟨v, r', rfl, h2, h3⟩ := r.uncons
    simp only [Rep] at h2
    obtain ⟨rfl, _⟩ := h2
    rw [strsOf_reps h h3]; rfl
  | .non :: _, _, _, h, _ => by simp [strsOf] at h
  | .bl _ :: _, _, _, h, _ => by simp [strsOf] at h
  | .int _ :: _, _, _, h, _ => by simp [strsOf] at h
  | .tup _ :: _, _, _, h, _ => by simp [strsOf] at h
  | .lst _ :: _, _, _, h, _ => by simp [strsOf] at h
  | .dic _ _ :: _, _, _, h, _ => by simp [strsOf] at h
  | .ins _ _ :: _, _, _, h, _ => by simp [strsOf] at h
  | .own _ :: _, _, _, h, _ => by simp [strsOf] at h
  | .pin _ :: _, _, _, h, _ => by simp [strsOf] at h
theorem glue_fold (a : List Nat) : ∀ (ps : List (List Nat)) (acc : List Nat), (ps.map toStr).foldl (fun acc p => acc ++ (toStr a).cps ++ p.cps) acc.toArray = (ps.foldl (fun acc p => acc ++ a ++ p) acc).toArray
  | [], acc => rfl
  | p :: ps, acc => by
    rw [List.map_cons, List.foldl_cons, List.foldl_cons, ← glue_fold a ps]
    congr 1
    simp [toStr]
theorem join_eq (a : List Nat) (ys : List (List Nat)) : Txt.join (toStr a) (ys.map toStr) = toStr (joinL a ys) := by
  show Builtin.Str.glued _ _ = _
  unfold Builtin.Str.glued joinL
  have h : (List.headD (ys.map toStr) Str.empty).cps = (ys.headD []).toArray := by cases ys <;> rfl
  rw [h, ← List.map_drop, glue_fold]
  rfl
theorem de_join {o e : Expr} {fo fe : EM} {apos pos : Pos} (ho : DE T X P W o fo) (he : DE T X P W e fe) (h1 : starEach [e] X.env = [(false, eval e X.env)]) (h2 : attributeBase o "join" X.env (eval o X.env) = eval o X.env) (h3 : (apos.endLine == pos.line) = true) :
    DE T X P W (.Call (.Attribute o "join" apos) [e] [] pos) (dJoin fo fe) := by
  obtain ⟨to, po, so⟩ := ho.ex
  obtain ⟨te, pe, se⟩ := he.ex
  refine ⟨_, pe_join po pe h1 h2 h3, fun env r env' h F g σ H Q A post => ?_⟩
  refine soundE_bind so h A post.exx fun s e1 h1 v F1 g1 H1 G1 A1 R1 => ?_
  cases s with
  | str a =>
    simp only at h1
    have R1' := R1
    simp only [Rep] at R1'
    obtain ⟨rfl, hb⟩ := R1'
    refine ⟨⟨_, rfl⟩, ?_⟩
    refine soundE_bind se h1 A1 (post.grow G1).exx fun x e2 h2 w F2 g2 H2 G2 A2 R2 => ?_
    obtain ⟨z, hz, rfl, rfl⟩ := lift_eq h2
    unfold joinD at hz
    split at hz
    · rename_i xs ei
      split at hz
      · rename_i ys es
        split at hz
        · rename_i hc
          obtain ⟨c1, c2⟩ := Bool.and_eq_true_iff.mp hc
          have c1 := of_decide_eq_true c1
          cases hz
          obtain ⟨p, vs, rfl, hp, hr⟩ := items_at A2.sub ei R2
          have ev := strsOf_reps es hr
          subst ev
          refine ⟨toStr a, p, ys.map toStr, rfl, rfl, hp.symm, ?_, ?_⟩
          · have : (ys.map toStr).map (fun x => x.length) = ys.map List.length := by
              rw [List.map_map]
              exact List.map_congr_left fun y _ => str_length y
            rw [this, List.length_map]
            show _ + _ * Str.length ⟨a.toArray⟩ ≤ _
            rw [str_length]
            exact c1
          · rw [join_eq]
            exact post _ F2 g2 H2 (G1.trans G2) A2 (rep_s c2)
        · cases hz
      · cases hz
    · cases hz
  | _ => cases h1
/-- str, repr of a whole number -/
def numD (i : Int) : List Nat := (Str.ofString (toString i)).cps.toList
def fStr : List D → Option D
  | [.int i] => if (decide (i.natAbs.log2 < 1920) && strB (numD i)) = true then some (.str (numD i)) else none
  | [.str x] => some (.str x)
  | _ => none
theorem rep_num {i : Int} (h : strB (numD i) = true) : Rep T K F (.str (numD i)) (.str (Str.ofString (toString i))) := by
  refine rep_str ?_
  unfold numD at h ⊢
  rw [h, Bool.and_true]
  exact decide_eq_true rfl
theorem s_str : CallS T K (fun xs H Q => (∃ i : Int, xs = [.int i] ∧ i.natAbs.log2 < 1920 ∧ Q (.str (Str.ofString (toString i))) H) ∨ ∃ a, xs = [.str a] ∧ Q (.str a) H) fStr := by
  intro xs z e F H vs Q s rx q
  unfold fStr at e
  split at e
  · split at e
    · rename_i i hc
      obtain ⟨c1, c2⟩ := Bool.and_eq_true_iff.mp hc
      cases e
      obtain ⟨v, rfl, r⟩ := reps1 (ds := []) rx
      simp only [Rep] at r
      exact .inl ⟨_, by rw [r], of_decide_eq_true c1, q _ F H .refl (rep_num c2)⟩
    · cases e
  · cases e
    obtain ⟨v, rfl, r⟩ := reps1 (ds := []) rx
    have r' := r
    simp only [Rep] at r
    exact .inr ⟨_, by rw [r.1], by rw [← r.1]; exact q _ F H .refl r'⟩
  · cases e
theorem call_str_all : CallR X (.type "str") (fun xs H Q => (∃ i : Int, xs = [.int i] ∧ i.natAbs.log2 < 1920 ∧ Q (.str (Str.ofString (toString i))) H) ∨ ∃ a, xs = [.str a] ∧ Q (.str a) H) := CallR.or call_str_int SkE.call_str_str
end
end DS
namespace DS
open PySem PySem.Spec L2
/-! ### list of a text -/
def signsV (x : Str) : List V := x.cps.toList.map fun c => .str ⟨#[c]⟩
theorem signs_vals {x : Str} : ∀ (l : List Value) (k : Nat), (∀ j v, l[j]? = some v → SignAt x (k + j) v) → l.length + k = x.cps.size → Vals ((x.cps.toList.drop k).map fun c => V.str ⟨#[c]⟩) l
  | [], k, _, hl => by
    rw [List.drop_eq_nil_of_le (by simp at hl ⊢; omega)]
    exact .nil
  | v :: l, k, h, hl => by
    obtain ⟨c, u, hc, rfl⟩ := h 0 v rfl
    have hk : k < x.cps.toList.length := by simp at hl ⊢; omega
    have e : x.cps.toList[k] = c := by
      have : x.cps.toList[k]? = some c := by simpa using hc
      rw [List.getElem?_eq_getElem hk] at this
      exact Option.some.inj this
    rw [List.drop_eq_getElem_cons hk, e]
    refine .cons ⟨u, rfl⟩ (signs_vals l (k + 1) (fun j v hv => ?_) (by simp at hl ⊢; omega))
    have := h (j + 1) v (by simpa using hv)
    rwa [show k + 1 + j = k + (j + 1) by omega]
theorem call_listS {X : Cx} (hc : X.calm = true) : CallR X (.type "list") (fun xs H Q => ∃ x : Str, xs = [.str x] ∧ x.length ≤ sizeLine ∧ ∀ p, H p = none → Q (.ref p) (upd H p (.lst (signsV x)))) := by
  intro pins s σ H xs us Q I vs h
  obtain ⟨x, rfl, hl, q⟩ := h
  cases vs with
  | cons r t =>
    cases t
    obtain ⟨t, rfl⟩ := r
    refine PySem.call_list_str (I.ok.hd hc) x t (fun h' tk acc c' hk hn hi => ?_) hl
    refine ⟨.ref s.heap.objs.size, _, I.laid (a := s.heap.objs.size) (o := .lst (signsV x)) hk (Nat.le_refl _) ?_, rfl, q _ I.fresh⟩
    rw [ObjOk]
    refine ⟨by simp only [signsV, List.length_map]; exact hl, acc.toList, c', ?_, by simpa using hn⟩
    have hs : acc.toList.length = x.cps.size := by simpa using hi.1
    have := signs_vals (x := x) acc.toList 0 (fun j v hv => by rw [Nat.zero_add]; exact hi.2 j v (by simpa using hv)) (by omega)
    simpa [signsV] using this
def fListA : List D → Option D
  | [.lst xs] => some (.lst xs)
  | [.tup xs] => some (.lst xs)
  | [.str x] => some (.lst (x.map fun c => .str [c]))
  | _ => none
section
variable {T : Tb} {X : Cx} {P : Nat → Option V} {W : WX} {K : PySem.W.Frag} {F F' F1 H H' H1 : Hp} {g g1 : Nat → List Addr} {env env' : DEnv} {σ σ' : L2.St}
abbrev rListA (K : PySem.W.Frag) : List V → Hp → VK → Prop := fun xs H Q => (∃ p ys, xs = [V.ref p] ∧ (SqL K H p ys ∨ SqT K H p ys) ∧ ∀ l, H l = none → Q (.ref l) (upd H l (.lst ys))) ∨ ∃ x : Str, xs = [.str x] ∧ x.length ≤ sizeLine ∧ ∀ p, H p = none → Q (.ref p) (upd H p (.lst (signsV x)))
theorem call_listA (hc : X.calm = true) : CallR X (.type "list") (rListA X.K) := CallR.or call_list_of (call_listS hc)
theorem signs_reps {x : List Nat} (hb : strB x = true) : ∀ l : List Nat, (∀ c ∈ l, c ∈ x) → Reps T K F (l.map fun c => .str [c]) (l.map fun c => V.str ⟨#[c]⟩)
  | [], _ => Reps.nil
  | c :: l, h => Reps.cons (rep_s (strB_one hb (h c (by simp)))) (signs_reps hb l fun d hd => h d (by simp [hd]))
theorem o_listA : ∀ xs z, fListA xs = some z → ∀ F H vs (Q : VK), Same F H → Reps T K F xs vs → (∀ ys us, z = .lst ys → Reps T K F ys us → ∀ p, H p = none → Q (.ref p) (upd H p (.lst us))) → rListA K vs H Q := by
  intro xs z e F H vs Q s rx q
  unfold fListA at e
  split at e
  · cases e
    obtain ⟨v, rfl, r⟩ := reps1 (ds := []) rx
    simp only [Rep] at r
    obtain ⟨a, us, rfl, h2, h3⟩ := r
    exact .inl ⟨a, us, rfl, .inl (SqL.of (s _ _ h2)), fun l hl => q _ _ rfl h3 l hl⟩
  · cases e
    obtain ⟨v, rfl, r⟩ := reps1 (ds := []) rx
    simp only [Rep] at r
    obtain ⟨a, us, rfl, h2, h3⟩ := r
    exact .inl ⟨a, us, rfl, .inr (same_sqT s h2.sq), fun l hl => q _ _ rfl h3 l hl⟩
  · rename_i x
    cases e
    obtain ⟨v, rfl, r⟩ := reps1 (ds := []) rx
    simp only [Rep] at r
    obtain ⟨rfl, hb⟩ := r
    refine .inr ⟨_, rfl, by rw [str_length, lim_eq]; exact strB_len hb, fun p hp => ?_⟩
    have := signs_reps (T := T) (K := K) (F := F) hb x fun c hc => hc
    exact q _ _ rfl (by simpa [signsV] using this) p hp
  · cases e
theorem s_listA : CallS T K (rListA K) fListA := by
  intro xs z e F H vs Q s rx q
  refine o_listA xs z e F H vs Q s rx fun ys us ez hr p hp => ?_
  subst ez
  exact q _ _ _ (.one hp) (rep_newL s hp hr)
/-- list(x), owned -/
theorem do_listA {x : Str} {p pos : Pos} {e : Expr} {es : List Expr} {fa : AM} (hc : X.calm = true) (hg : Gl X x) (hm : X.mg x = none) (hv : bootBuiltins x = some (.type "list")) (ha : DA T X P W (e :: es) fa)
    (hn : x ≠ "__name__") (hdb : (x == ("__debug__" : Str)) = false) (he : starEach (e :: es) X.env = (false, eval e X.env) :: starEach es X.env) (hpl : (backTo pos (starEach es X.env)).any (·.1) = false) : DO T X P W (.Call (.Name x p) (e :: es) [] pos) (dCall fListA fa) := by
  obtain ⟨ta, pa, sa⟩ := ha.ex
  refine ⟨_, pe_callTy (call_listA hc) hg hm hv pa hn hdb he hpl, fun env o env' h F g σ H Q A post => ?_⟩
  refine soundL_bind sa h A post.exx fun ds e1 h1 vs F1 g1 H1 G1 A1 R1 => ?_
  obtain ⟨z, hz, rfl, rfl⟩ := lift_eq h1
  refine o_listA ds z hz F1 H1 vs Q A1.sub R1 fun ys us ez hr p hp => ?_
  subst ez
  have fp : F1 p = none := A1.sub.free hp
  refine post _ [p] F1 g1 _ (G1.trans ⟨Same.refl _, fun a u _ e => by rw [upd_ne (ne_of_none e hp)]; exact e, fun _ _ _ _ h => h, fun i a h => .inl ⟨i, h⟩⟩) (A1.beside hp) ?_ ?_ ?_
  · simp only [RepO]
    exact ⟨p, us, rfl, rfl, fp, upd_same, hr⟩
  · intro i x hx hi
    obtain rfl : x = p := by simpa using hx
    obtain ⟨_, u, e⟩ := A1.inn i _ hi
    rw [hp] at e; cases e
  · intro x hx
    obtain rfl : x = p := by simpa using hx
    exact G1.back (.inr hp)
end
/-! ### a drawn text of marks -/
def sm_marks : SM := (retS (dJoin (dC (.str [])) (dLc (iRange1 (aCons (dVar 1) aNil)) (gmName 2) (retB true) (needS 0 (dCallS 2 m_of [] 0 (aCons (dC (.str [48, 49])) aNil))) [2])))
def m_marks : List D → Option (R × List D) := runD 3 sm_marks
def marks (x : List Nat) : Bool := x.all fun c => c == 48 || c == 49
theorem marks_strB {x : List Nat} (h : marks x = true) (hl : x.length ≤ 16777216) : strB x = true := by
  unfold strB
  rw [Bool.and_eq_true]
  refine ⟨List.all_eq_true.mpr fun c hc => ?_, decide_eq_true hl⟩
  have := List.all_eq_true.mp h c hc
  simp only [Bool.or_eq_true, beq_iff_eq] at this
  exact decide_eq_true (by omega)
theorem fold_join : ∀ (l : List Nat) (acc : List Nat), (l.map fun c => [c]).foldl (fun acc p => acc ++ [] ++ p) acc = acc ++ l
  | [], acc => by simp
  | c :: l, acc => by
    rw [List.map_cons, List.foldl_cons, fold_join l]
    simp
theorem join_signs (l : List Nat) : joinL [] (l.map fun c => [c]) = l := by
  unfold joinL
  cases l with
  | nil => rfl
  | cons c l =>
    show (l.map fun c => [c]).foldl _ [c] = _
    rw [fold_join]; rfl
theorem strsOf_signs (l : List Nat) : strsOf (l.map fun c => D.str [c]) = some (l.map fun c => [c]) := by
  induction l with
  | nil => rfl
  | cons c l ih => simp [strsOf, ih]
theorem sum_ones : ∀ l : List Nat, ((l.map fun c => [c]).map List.length).sum = l.length
  | [] => rfl
  | c :: l => by
    have := sum_ones l
    simp at this ⊢
    omega
theorem marks_spec {s : List D} {n : Int} (h : DrawOk s) (h0 : 0 ≤ n) (h1 : n < 1000000) : ∃ x s', m_marks [.pin (.lst s), .int n] = some (.ok (.str x), [.lst s']) ∧ (x.length : Int) = n ∧ marks x = true ∧ strB x = true ∧ DrawOk s' := by
  have key : ∃ d o, runD 3 sm_marks [.pin (.lst s), .int n] = some (.ok d, o) ∧ ∃ x s', d = .str x ∧ o = [.lst s'] ∧ (x.length : Int) = n ∧ marks x = true ∧ strB x = true ∧ DrawOk s' := by
    refine run_of ?_
    show wS sm_marks [some (.pin (.lst s)), some (.int n), none] _
    unfold sm_marks
    rw [wS_ret]
    unfold dJoin
    rw [wE_bE, wE_c]
    show wE (bE _ _) _ _ _
    rw [wE_bE]
    refine wE_lc ?_
    have bg : big62 n = true := by unfold big62; rw [Bool.and_eq_true]; exact ⟨geI_iff.mpr (by omega), ltI_iff.mpr (by omega)⟩
    have hi : iRange1 (aCons (dVar 1) aNil) [some (.pin (.lst s)), some (.int n), none] = some (.ok (rangeD 0 n.toNat), [some (.pin (.lst s)), some (.int n), none]) := by
      simp [iRange1, bIA, aCons, bAA, mapA, aNil, shs, dVar, D.sh, liftI, bg]
    unfold wI
    rw [hi]
    refine ⟨rfl, by simp [rangeD]; omega, ?_⟩
    obtain ⟨ys, e, hl, s', acc, o, rfl, rfl, hm, hd, hlen⟩ := lcM_of (gm := gmName 2) (tm := retB true) (em := needS 0 (dCallS 2 m_of [] 0 (aCons (dC (.str [48, 49])) aNil))) (vs := [2])
      (fun rest acc env => ∃ s' l o, acc = l.map (fun c => D.str [c]) ∧ env = [some (.pin (.lst s')), some (.int n), o] ∧ marks l = true ∧ DrawOk s' ∧ l.length + rest.length = n.toNat)
      (fun d ds acc e ⟨s', l, o, ea, ee, hm, hd, hl⟩ => by
        subst ea; subst ee
        show wG (putS 2 d _) _
        refine putS_ok rfl rfl ?_
        show wE _ [some (.pin (.lst s')), some (.int n), some d] _ _
        obtain ⟨c, s2, hc, e2, hd2⟩ := of_spec_str (xs := [48, 49]) hd (by simp) (by simp)
        refine wE_callS (s0 := .lst s') (.inr rfl) ?_
        rw [wL_cons, wE_c, wL_nil]
        refine ⟨rfl, .lst s', .inr rfl, .str [c], .lst s2, e2, rfl, s2, l ++ [c], some d, by simp, rfl, ?_, hd2, by simp at hl ⊢; omega⟩
        unfold marks at hm ⊢
        rw [List.all_append, hm]
        simp at hc
        rcases hc with rfl | rfl <;> rfl)
      (rangeD 0 n.toNat) [] [some (.pin (.lst s)), some (.int n), none] ⟨s, [], none, rfl, rfl, rfl, h, by simp [rangeD]⟩
    refine ⟨_, _, hl, ?_⟩
    rw [wE_lift]
    have hs : strB acc = true := marks_strB hm (by simp at hlen; omega)
    have ej : joinD [] (.lst (acc.map fun c => D.str [c])) = some (.str acc) := by
      unfold joinD
      simp only [itemsOf, strsOf_signs, join_signs, hs]
      have e1 := sum_ones acc
      rw [e1, if_pos]
      simp at hlen ⊢; omega
    rw [ej, wO_some]
    exact ⟨[.lst s'], rfl, acc, s', rfl, rfl, by simp at hlen; omega, hm, hs, hd⟩
  obtain ⟨d, o, e, x, s', rfl, rfl, h2⟩ := key
  exact ⟨x, s', e, h2⟩
end DS
namespace DS
/-- no parameter's owned thing -/
def npin : Option D → Bool
  | some (.pin _) => false
  | _ => true
theorem npin_ok {o : Option D} (h : okSl o = true) : npin o = true := by
  cases o with
  | none => rfl
  | some d => cases d <;> first | rfl | cases h
end DS
namespace DS
open PySem PySem.Spec L2
/-! ### defs called with names, with a star's parameter; objects made so -/
abbrev SpA := List V → List V → Hp → VK → XK → Prop
def FnA (P : Program) (w : World) (K : PySem.W.Frag) (mg : Str → Option Value) (base : Heap) (CX : CXT) (k : Nat) (f : Addr) (ks : List Str) (sp : SpA) : Prop :=
  ∀ (A : Around) (outer : List Env) (s : Shared) (H : Hp) (us ws : List Value) (vs zs : List V) (Q : VK) (E : XK), Room k A → Env0 P w K mg base A outer s H → Vals vs us → Vals zs ws → zs.length = ks.length → sp vs zs H Q E →
    codeAny (model P w) A (Code.call (.ref f) { pos := us, kw := ks.zip ws }) (CR CX outer P w H s Q E) s
theorem mkA_run {X : Cx} {CX : CXT} {k : Nat} {f C : Addr} {ks : List Str} {sp : SpA} {E : XK} {pins : List (Addr × Obj)} {σ : L2.St} {H : Hp} {s : Shared} {Q : VK} {us ws : List Value} {vs zs : List V} (M : Mk X.K C f) (F : FnA X.prog X.w X.K X.mg X.base CX k f ks sp) (hr : Room (k + 1) X.A) (hx : Passes CX X E) (I : L2.Inv X pins σ H s) (r : Vals vs us) (rz : Vals zs ws) (l2 : zs.length = ks.length)
    (h : ∀ x dx, H x = none → H dx = none → dx ≠ x → sp (.ref x :: vs) zs (upd (upd H dx (.own x)) x (.ins C dx [])) (fun v H2 => v = .non ∧ Q (.ref x) H2) E) : wpAny (model X.prog X.w) X.A (call (.ref C) us (ks.zip ws)) (EP X pins σ Q) X.xe s := by
  have hq := h (s.heap.objs.size + 1) s.heap.objs.size (HOk.fresh I.hok (Nat.le_succ _)) (HOk.fresh I.hok (Nat.le_refl _)) (Nat.ne_of_lt (Nat.lt_succ_self _))
  have I2 := Inv.made (C := C) I
  refine wpAny_call (make_map (Inv.kIn I) M.makes M.init (beq_iff_eq.mp M.fn) (codeAny_mono (F _ _ _ _ _ _ _ _ _ _ (Room.make hr C us (ks.zip ws)) (Env0.make (Inv.env0 I2) C us (ks.zip ws)) (.cons (show RelV (.ref (s.heap.objs.size + 1)) (.ref (s.heap.objs.size + 1)) from rfl) r) rz l2 hq) fun r s' hq' => ?_))
  cases r with
  | error e => exact hx _ _ _ _ _ _ I2 hq'
  | ok fl =>
    cases fl with
    | ret u =>
      obtain ⟨v, H', I3, rv, ev, q3⟩ := Inv.after I2 hq'
      subst ev
      exact ⟨rv, .ref _, H', I3, rfl, q3⟩
    | _ => exact False.elim hq'
/-- C(e, .., k=e, ..) -/
def tMakeA (C : Addr) (m : Nat) (sp : SpA) (E : XK) (t tk : TA) : TE := fun σ H Q => t σ H fun vs H1 => tk σ H1 fun zs H2 => zs.length = m ∧ ∀ x dx, H2 x = none → H2 dx = none → dx ≠ x → sp (.ref x :: vs) zs (upd (upd H2 dx (.own x)) x (.ins C dx [])) (fun v H3 => v = .non ∧ Q (.ref x) H3) E
theorem pe_makeA {X : Cx} {CX : CXT} {k : Nat} {f C : Addr} {ks : List Str} {sp : SpA} {E : XK} {x : Str} {p pos : Pos} {e : Expr} {es : List Expr} {kws : List Keyword} {t tk : TA} (M : Mk X.K C f) (F : FnA X.prog X.w X.K X.mg X.base CX k f ks sp) (hr : Room (k + 1) X.A) (hg : Gl X x) (hm : X.mg x = some (.ref C)) (hx : Passes CX X E) (ha : PA X (e :: es) t) (hkw : PK X kws tk)
    (hall : ((backToKw pos (keywordEach kws X.env)).all fun x => x.fst.isSome) = true) (hks : List.filterMap (fun x => x.fst) (backToKw pos (keywordEach kws X.env)) = ks) (hdb : (x == Str.ofString "__debug__") = false) (he : starEach (e :: es) X.env = (false, eval e X.env) :: starEach es X.env)
    (hpl : (((backTo pos (starEach (e :: es) X.env)).any fun x => x.fst) || (backToKw pos (keywordEach kws X.env)).any fun x => x.fst.isNone) = false) : PE X ((Expr.Name x p).Call (e :: es) kws pos) (tMakeA C ks.length sp E t tk) := by
  refine ⟨fun pins s σ H Q I h => wpAny_Call_Name_kw (ld_glob I hg hm (W.callWith_KW I.ok.mod.kin M.kp hall (thn (ha.run pos pins s σ H _ I h) fun us s1 ⟨vs, H1, I1, r, q⟩ => thn (hkw.run pos pins s1 σ H1 _ I1 q) fun ws s2 ⟨zs, H2, I2, rz, l2, q2⟩ => ⟨Inv.kIn I2, ?_⟩) hpl he) hdb)⟩
  rw [hks]
  exact mkA_run M F hr hx I2 r rz l2 q2
/-- t looks the names up in the dict at D, one behind another, and goes on as k -/
def KwTo {α : Type} (D : Addr) : List (Str × Value) → Sem α → Sem α → Prop
  | [], t, k => t = k
  | q :: l, t, k => ∃ (β γ : Type) (j1 : Option Value → Sem β) (j2 : β → Sem γ) (j3 : γ → Sem α) (b : β), t = ((nsGet D q.1 >>= j1) >>= j2) >>= j3 ∧ (j1 (some q.2) = pure b ∧ KwTo D l (j2 b >>= j3) k)
theorem KwTo.run {α : Type} {K : PySem.W.Frag} {M : Model} {A : Around} {D : Addr} {Q : α → Shared → Prop} {E : Value → Shared → Prop} {s : Shared} (X : K.In s.heap) : ∀ {l : List (Str × Value)} {t k : Sem α}, (∀ q ∈ l, PySem.W.nsIn K D q.1 = some (some q.2)) → KwTo D l t k → wpAny M A k Q E s → wpAny M A t Q E s
  | [], t, k, _, e, h => by
    have e' : t = k := e
    rw [e']; exact h
  | q :: l, t, k, hl, e, h => by
    obtain ⟨β, γ, j1, j2, j3, b, e1, e2, e3⟩ := e
    have l1 : PySem.W.Looks M s.heap (nsGet D q.1 >>= j1) b := (PySem.W.looks_nsIn X (hl q List.mem_cons_self)).andThen (PySem.W.Looks.of_pure e2)
    rw [e1, bind_assoc]
    exact wpAny_bind (l1 A _ E s (fun _ _ z => z) (KwTo.run X (fun p hp => hl p (List.mem_cons_of_mem _ hp)) e3 h))
/-- a def with a star's parameter and named ones; those that lack are looked up -/
theorem fnA_star {CX : CXT} {P : Program} {w : World} {K : PySem.W.Frag} {mg : Str → Option Value} {base : Heap} {k : Nat} {f : Addr} {name qual : Str} {params : Arguments} {body : List Stmt} {scope : Scope} {dV kV doc pm cdv ct oc : Value} {an od : Option Addr} {osl : Array (Option Value)} {N ps ks : List Str} {sp : Sp}
    {gl : Value → Value → List Value → List Value} {gV : V → V → List V → List V} {D : Addr} {lks : List (Str × Value)}
    (lk : List.lookup f K = some { cls := oc, dict := od, data := Data.func (PySem.W.fnOf name qual params body scope dV kV doc pm an cdv ct), slots := osl }) (hcd : PySem.W.codeIn K cdv qual = true) (S : FnScope N ps scope) (hCX : StX.CXUp CX)
    (hlk : ∀ q ∈ lks, PySem.W.nsIn K D q.1 = some (some q.2))
    (hb : ∀ (u : Value) (rest ws : List Value), ws.length = ks.length → KwTo D lks (bindArgs (PySem.W.fnOf name qual params body scope dV kV doc pm an cdv ct) { pos := u :: rest, kw := ks.zip ws }) (newTuple rest >>= fun t => pure (ps.zip (gl u t ws))))
    (hrel : ∀ {x p : V} {u t : Value} {zs : List V} {ws : List Value}, RelV x u → RelV p t → Vals zs ws → zs.length = ks.length → Vals (gV x p zs) (gl u t ws) ∧ (gV x p zs).length = ps.length)
    (hbody : ∀ (A : Around) (outer : List Env) (s : Shared) (H : Hp) (vs : List V) (Q : VK) (E : XK), Room k (A.deeper (PyProof.Rows.envOfC qual scope s.heap.objs.size f cdv)) → sp vs H Q E → ∃ t, PSs (cxOf CX P w K mg base N qual scope f cdv A outer s H E) body t ∧ t { nx := fun _ H' => Q .non H', rt := Q } (L2.start N vs) H) :
    FnA P w K mg base CX (k + 1) f ks fun vs zs H Q E => ∃ x rest, vs = x :: rest ∧ rest.length ≤ sizeLine ∧ ∀ p, H p = none → sp (gV x (.ref p) zs) (upd H p (.tup rest)) Q E := by
  intro A outer s H us ws vs zs Q E hr e0 r rz lz ⟨x, rest, ev, hz, hq⟩
  subst ev
  have KX : K.In s.heap := e0.mod.kin.keeps fun b o e => (e0.bs b o e).1
  cases r with
  | @cons _ u _ us' rx r2 =>
    have hn := HOk.fresh e0.hok (Nat.le_refl s.heap.objs.size)
    have hl2 : us'.length ≤ sizeLine := by rw [← r2.length]; exact hz
    have lw : ws.length = ks.length := by rw [← rz.length]; exact lz
    refine StX.run_bnd (G := fun xs H2 => ∃ p, H p = none ∧ xs = gV x (.ref p) zs ∧ H2 = upd H p (.tup rest)) lk hcd S hr e0 (fun A' Ex Q' h => ?_) fun s2 H2 xs ⟨p, hp, ex, eH⟩ hr' => ?_
    · refine KwTo.run KX hlk (hb u us' ws lw) ?_
      refine wpAny_bind (wpAny_newTuple (wpAny_pure ?_) hl2)
      have new : ObjOk P w (upd H s.heap.objs.size (.tup rest)) (s.heap.push { cls := .type "tuple", data := .seq us'.toArray }) s.heap.objs.size (.tup rest) :=
        ⟨hz, us', r2, { cls := .type "tuple", data := .seq us'.toArray }, Heap.get?_push_size s.heap rfl, rfl, 0, rfl⟩
      have un := StX.un_laid (o := { cls := .type "tuple", data := .seq us'.toArray }) (u := .tup rest) (fs := frs outer) hn
      obtain ⟨q1, q2⟩ := hrel (p := .ref s.heap.objs.size) (t := .ref s.heap.objs.size) rx rfl rz lz
      exact h { heap := s.heap.push { cls := .type "tuple", data := .seq us'.toArray }, gens := s.gens, drawn := s.drawn, toks := s.toks, os := s.os } (upd H s.heap.objs.size (.tup rest)) _ _ (StX.env0_laid e0 new) un rfl
        (fun e s' => hCX outer s H _ _ E e s' un (fun b o q => Heap.get?_push_of_some _ q) rfl) q1 q2 ⟨s.heap.objs.size, hn, rfl, rfl⟩
    · subst ex; subst eH
      exact hbody A outer s2 _ _ Q E hr' (hq p hp)
end DS
namespace DS
open PySem PySem.Spec L2
/-! ### fields -/
/-- the class c's field i is a plain field -/
def FOk (T : Tb) (K : PySem.W.Frag) (c : Nat) (f : Str) : Prop := ∀ n, T.cn[c]? = some n → Cls K (He.ga K n) ∧ NoAttr K (He.ga K n) f
theorem fn_inj {T : Tb} {i j : Nat} {x : Str} (h : T.fn[i]? = some x) (h' : T.fn[j]? = some x) : i = j := by
  obtain ⟨h1, e1⟩ := List.getElem?_eq_some_iff.mp h
  obtain ⟨h2, e2⟩ := List.getElem?_eq_some_iff.mp h'
  have nd := List.pairwise_iff_getElem.mp T.nd
  rcases Nat.lt_trichotomy i j with q | q | q
  · exact absurd (e1.trans e2.symm) (nd i j h1 h2 q)
  · exact q
  · exact absurd (e2.trans e1.symm) (nd j i h2 h1 q)
section
variable {T : Tb} {X : Cx} {P : Nat → Option V} {W : WX} {K : PySem.W.Frag} {F F' F1 H H' H1 : Hp} {g g1 : Nat → List Addr} {env env' : DEnv} {σ σ' : L2.St}
theorem repF_at {i : Nat} {x : Str} (hx : T.fn[i]? = some x) : ∀ {fs : List (Nat × D)} {l : List (Str × V)} {d : D}, RepF T K F fs l → fs.lookup i = some d → ∃ v, l.lookup x = some v ∧ Rep T K F d v
  | [], l, d, _, e => by cases e
  | (j, c) :: r, l, d, h, e => by
    simp only [RepF] at h
    obtain ⟨n, v, l', rfl, h2, h3, h4⟩ := h
    rw [List.lookup_cons] at e
    rw [List.lookup_cons]
    by_cases q : i = j
    · subst q
      rw [hx] at h2
      simp only [Option.some.injEq] at h2
      subst h2
      simp only [beq_self_eq_true] at e ⊢
      simp only [Option.some.injEq] at e
      subst e
      exact ⟨v, rfl, h3⟩
    · have hn : (x == n) = false := by
        cases z : (x == n) with
        | false => rfl
        | true =>
          have := eq_of_beq z
          subst this
          exact absurd (fn_inj hx h2) q
      rw [beq_false_of_ne q] at e
      rw [hn]
      exact repF_at hx h4 e
theorem fldO_at {i : Nat} {x : Str} (hx : T.fn[i]? = some x) : ∀ {fs : List (Nat × D)} {l : List (Str × V)} {fp : List Addr} {d : D}, FldO T K F H fs l fp → fs.lookup i = some d → ∃ v f1, l.lookup x = some v ∧ RepO T K F H d v f1
  | [], l, fp, d, _, e => by cases e
  | (j, c) :: r, l, fp, d, h, e => by
    simp only [FldO] at h
    obtain ⟨n, v, l', f1, f2, rfl, _, _, h2, h3, h4⟩ := h
    rw [List.lookup_cons] at e
    rw [List.lookup_cons]
    by_cases q : i = j
    · subst q
      rw [hx] at h2
      simp only [Option.some.injEq] at h2
      subst h2
      simp only [beq_self_eq_true] at e ⊢
      simp only [Option.some.injEq] at e
      subst e
      exact ⟨v, f1, rfl, h3⟩
    · have hn : (x == n) = false := by
        cases z : (x == n) with
        | false => rfl
        | true =>
          have := eq_of_beq z
          subst this
          exact absurd (fn_inj hx h2) q
      rw [beq_false_of_ne q] at e
      rw [hn]
      exact fldO_at hx h4 e
/-- e.f of a plain object of one of the classes al -/
def oFld (al : List Nat) (i : Nat) : D → Option D
  | .ins c fs => if al.contains c = true then fs.lookup i else none
  | _ => none
theorem de_fld {e : Expr} {fe : EM} {f : Str} {pos : Pos} {al : List Nat} {i : Nat} (he : DE T X P W e fe) (hb : attributeBase e f X.env (eval e X.env) = eval e X.env) (hf : T.fn[i]? = some f) (ho : ∀ c ∈ al, FOk T X.K c f) : DE T X P W (.Attribute e f pos) (dUn (oFld al i) fe) := by
  obtain ⟨t, p, se⟩ := he.ex
  refine ⟨_, pe_fld p hb, fun env o env' h F g σ H Q A post => ?_⟩
  refine soundE_bind se h A post.exx fun x e1 h1 v F1 g1 H1 G1 A1 R1 => ?_
  obtain ⟨z, hz, rfl, rfl⟩ := lift_eq h1
  unfold oFld at hz
  split at hz
  · rename_i c fs
    split at hz
    · rename_i hc
      simp only [Rep] at R1
      obtain ⟨a, dx, n, l, rfl, ⟨_, hn⟩, h3, h4⟩ := R1
      obtain ⟨u, h5, h6⟩ := repF_at hf h4 hz
      obtain ⟨k1, k2⟩ := ho c (List.contains_iff_mem.mp hc) n hn
      exact ⟨a, _, dx, l, u, rfl, A1.sub _ _ h3, k1, k2, h5, post u F1 g1 H1 G1 A1 h6⟩
    · cases hz
  · cases hz
/-- the object that slot j owns -/
def slIns (j : Nat) (env : DEnv) : Option (Nat × List (Nat × D)) := match env[j]? with
  | some (some (.own (.ins c fs))) => some (c, fs)
  | some (some (.pin (.ins c fs))) => some (c, fs)
  | _ => none
theorem Abs.slIns (A : Abs T K P F g env σ H) {j c : Nat} {fs : List (Nat × D)} (e : slIns j env = some (c, fs)) : ∃ a dx n l fq, σ[j]? = some (some (.ref a)) ∧ g j = a :: fq ∧ a ∉ fq ∧ F a = none ∧ T.cn[c]? = some n ∧ H a = some (.ins (He.ga K n) dx l) ∧ FldO T K F H fs l fq := by
  unfold DS.slIns at e
  split at e
  · rename_i c' fs' ej
    simp only [Option.some.injEq, Prod.mk.injEq] at e
    obtain ⟨rfl, rfl⟩ := e
    obtain ⟨v, h1, h2⟩ := A.at_ j _ ej
    rw [slotO_own] at h2
    simp only [RepO] at h2
    obtain ⟨a, dx, n, l, fq, rfl, h3, h4, h5, ⟨_, h6⟩, h7, h8⟩ := h2
    exact ⟨a, dx, n, l, fq, h1, h3, h4, h5, h6, h7, h8⟩
  · rename_i c' fs' ej
    simp only [Option.some.injEq, Prod.mk.injEq] at e
    obtain ⟨rfl, rfl⟩ := e
    obtain ⟨v, h1, h2⟩ := A.at_ j _ ej
    rw [slotO_pin] at h2
    obtain ⟨h2, _⟩ := h2
    simp only [RepO] at h2
    obtain ⟨a, dx, n, l, fq, rfl, h3, h4, h5, ⟨_, h6⟩, h7, h8⟩ := h2
    exact ⟨a, dx, n, l, fq, h1, h3, h4, h5, h6, h7, h8⟩
  · cases e
/-- x.f, x a slot's owned object, the field plain -/
def dFldS (j : Nat) (al : List Nat) (i : Nat) : EM := fun env => match slIns j env with
  | some (c, fs) => if al.contains c = true then (match fs.lookup i with
    | some d => if d.sh = true then some (.ok d, env) else none
    | none => none) else none
  | none => none
theorem de_fldS {x f : Str} {p pos : Pos} {j : Nat} {al : List Nat} {i : Nat} (hj : PE X (.Name x p) (tVar j)) (hb : attributeBase (.Name x p) f X.env (eval (.Name x p) X.env) = eval (.Name x p) X.env) (hf : T.fn[i]? = some f) (ho : ∀ c ∈ al, FOk T X.K c f) : DE T X P W (.Attribute (.Name x p) f pos) (dFldS j al i) := by
  refine ⟨_, pe_fld hj hb, fun env o env' h F g σ H Q A post => ?_⟩
  unfold dFldS at h
  split at h
  · rename_i c fs es
    split at h
    · rename_i hc
      split at h
      · rename_i d ed
        split at h
        · rename_i hs
          simp only [Option.some.injEq, Prod.mk.injEq] at h
          obtain ⟨rfl, rfl⟩ := h
          obtain ⟨a, dx, n, l, fq, h1, h2, h3, h4, h5, h6, h7⟩ := A.slIns es
          obtain ⟨v, f1, h8, h9⟩ := fldO_at hf h7 ed
          obtain ⟨k1, k2⟩ := ho c (List.contains_iff_mem.mp hc) n h5
          exact ⟨_, h1, a, _, dx, l, v, rfl, h6, k1, k2, h8, post v F g H (Grow.refl _ _ _) A ((repO_sh hs).mp h9).2⟩
        · cases h
      · cases h
    · cases h
  · cases h
end
end DS
namespace DS
open PySem PySem.Spec L2
/-! ### a field is set -/
def putFD (i : Nat) (d : D) : List (Nat × D) → List (Nat × D)
  | [] => [(i, d)]
  | (j, c) :: r => if j = i then (j, d) :: r else (j, c) :: putFD i d r
def slInsPut (j : Nat) (i : Nat) (d : D) (env : DEnv) : Option DEnv := match env[j]? with
  | some (some (.own (.ins c fs))) => some (env.set j (some (.own (.ins c (putFD i d fs)))))
  | some (some (.pin (.ins c fs))) => some (env.set j (some (.pin (.ins c (putFD i d fs)))))
  | _ => none
section
variable {T : Tb} {X : Cx} {P : Nat → Option V} {W : WX} {K : PySem.W.Frag} {F F' F1 H H' H1 : Hp} {g g1 : Nat → List Addr} {env env' : DEnv} {σ σ' : L2.St}
theorem fldO_put {i : Nat} {x : Str} {d : D} {v : V} (hx : T.fn[i]? = some x) (hs : d.sh = true) (hr : Rep T K F d v) : ∀ {fs : List (Nat × D)} {l : List (Str × V)} {fp : List Addr}, FldO T K F H fs l fp → ∃ fq, FldO T K F H (putFD i d fs) (putF x v l) fq ∧ ∀ a ∈ fq, a ∈ fp
  | [], l, fp, h => by
    simp only [FldO] at h
    obtain ⟨rfl, rfl⟩ := h
    refine ⟨[], ?_, fun a h => h⟩
    simp only [putFD, putF, FldO]
    exact ⟨x, v, [], [], [], rfl, rfl, (fun _ h => by cases h), hx, (repO_sh hs).mpr ⟨rfl, hr⟩, rfl, rfl⟩
  | (j, c) :: r, l, fp, h => by
    simp only [FldO] at h
    obtain ⟨n, w, l', f1, f2, rfl, rfl, h1, h2, h3, h4⟩ := h
    by_cases q : j = i
    · subst q
      rw [hx] at h2
      simp only [Option.some.injEq] at h2
      subst h2
      refine ⟨f2, ?_, fun a h => List.mem_append_right _ h⟩
      simp only [putFD, putF, if_pos, FldO]
      exact ⟨x, v, l', [], f2, rfl, rfl, (fun _ h => by cases h), hx, (repO_sh hs).mpr ⟨rfl, hr⟩, h4⟩
    · have hn : ¬ n = x := fun z => by
        subst z
        exact q (fn_inj h2 hx)
      obtain ⟨fq, h5, h6⟩ := fldO_put hx hs hr h4
      refine ⟨f1 ++ fq, ?_, fun a h => ?_⟩
      · simp only [putFD, putF, if_neg q, if_neg hn, FldO]
        exact ⟨n, w, _, f1, fq, rfl, rfl, fun a ha hb => h1 a ha (h6 a hb), h2, h3, h5⟩
      · rcases List.mem_append.mp h with h | h
        · exact List.mem_append_left _ h
        · exact List.mem_append_right _ (h6 a h)
theorem Abs.slInsPut (A : Abs T K P F g env σ H) {j c i : Nat} {x : Str} {fs : List (Nat × D)} {d : D} {v : V} (e : DS.slIns j env = some (c, fs)) (e2 : DS.slInsPut j i d env = some env') (hx : T.fn[i]? = some x) (hs : d.sh = true) (hr : Rep T K F d v) :
    ∃ a dx n l, σ[j]? = some (some (.ref a)) ∧ T.cn[c]? = some n ∧ H a = some (.ins (He.ga K n) dx l) ∧ ∃ g', Abs T K P F g' env' σ (upd H a (.ins (He.ga K n) dx (putF x v l))) ∧ Grow F g H F g' (upd H a (.ins (He.ga K n) dx (putF x v l))) := by
  obtain ⟨a, dx, n, l, fq, h1, h2, h3, h4, h5, h6, h7⟩ := A.slIns e
  refine ⟨a, dx, n, l, h1, h5, h6, ?_⟩
  obtain ⟨fq', q1, q2⟩ := fldO_put hx hs hr h7
  have sub : ∀ k b, b ∈ (if k = j then a :: fq' else g k) → b ∈ g k := fun k b hb => by
    split at hb
    · rename_i z
      rw [z, h2]
      rcases List.mem_cons.mp hb with rfl | hb
      · simp
      · exact List.mem_cons_of_mem _ (q2 b hb)
    · exact hb
  have oth : ∀ k, k ≠ j → ∀ b ∈ g k, b ≠ a := fun k hk b hb z => hk (A.dis k j b hb (by rw [h2, z]; simp))
  have gk : Grow F g H F (fun k => if k = j then a :: fq' else g k) (upd H a (.ins (He.ga K n) dx (putF x v l))) := by
    refine ⟨Same.refl _, fun b u nb eb => ?_, fun _ _ _ _ h => h, fun k b hb => .inl ⟨k, sub k b hb⟩⟩
    rw [upd_ne fun z => nb j (by rw [h2, z]; simp)]; exact eb
  refine ⟨_, ?_, gk⟩
  have core : c ∈ T.hs → RepO T K F (upd H a (.ins (He.ga K n) dx (putF x v l))) (.own (.ins c (putFD i d fs))) (.ref a) (a :: fq') := fun hc => by
    simp only [RepO]
    refine ⟨a, dx, n, putF x v l, fq', rfl, rfl, fun z => h3 (q2 a z), h4, ⟨hc, h5⟩, upd_same, ?_⟩
    refine fldO_keep (Same.refl _) _ _ _ q1 (fun b hb o eb => ?_) fun b hb => (A.inn j b (by rw [h2]; exact List.mem_cons_of_mem _ (q2 b hb))).1
    rw [upd_ne fun z => h3 (by rw [← z]; exact q2 b hb)]; exact eb
  have key : ∀ w, j < env.length → SlotO T K P F (upd H a (.ins (He.ga K n) dx (putF x v l))) j w (.ref a) (a :: fq') → env' = env.set j (some w) → Abs T K P F (fun k => if k = j then a :: fq' else g k) env' σ (upd H a (.ins (He.ga K n) dx (putF x v l))) := by
    intro w hj hw ee
    subst ee
    refine ⟨fun b u eb => ?_, by simpa using A.len, fun k c' ek => ?_, fun k m b hk hm => A.dis k m b (sub k b hk) (sub m b hm), fun k hk => ?_⟩
    · rw [upd_ne (ne_of_none eb h4)]; exact A.sub _ _ eb
    · by_cases q : j = k
      · subst q
        rw [List.getElem?_set_self hj] at ek
        cases ek
        refine ⟨_, h1, ?_⟩
        simp only [if_pos]
        exact hw
      · rw [List.getElem?_set_ne q] at ek
        obtain ⟨u, w1, w2⟩ := A.at_ k c' ek
        refine ⟨u, w1, ?_⟩
        simp only [if_neg (Ne.symm q)]
        exact slotO_keep (Same.refl _) w2 (fun b hb o eb => by rw [upd_ne (oth k (Ne.symm q) b hb)]; exact eb) fun b hb => (A.inn k b hb).1
    · by_cases q : j = k
      · subst q
        exact absurd (List.getElem?_set_self hj) (hk w)
      · simp only [if_neg (Ne.symm q)]
        refine A.out k fun c' ek => hk c' ?_
        rw [List.getElem?_set_ne q]; exact ek
  unfold DS.slIns at e
  unfold DS.slInsPut at e2
  split at e
  · rename_i c' fs' ej
    simp only [Option.some.injEq, Prod.mk.injEq] at e
    obtain ⟨rfl, rfl⟩ := e
    rw [ej] at e2
    simp only [Option.some.injEq] at e2
    obtain ⟨v0, w1, w2⟩ := A.at_ j _ ej
    rw [slotO_own] at w2
    simp only [RepO] at w2
    obtain ⟨_, _, _, _, _, _, _, _, _, ⟨hc, _⟩, _⟩ := w2
    exact key _ (List.getElem?_eq_some_iff.mp ej).1 (slotO_own.mpr (core hc)) e2.symm
  · rename_i c' fs' ej
    simp only [Option.some.injEq, Prod.mk.injEq] at e
    obtain ⟨rfl, rfl⟩ := e
    rw [ej] at e2
    simp only [Option.some.injEq] at e2
    obtain ⟨v0, w1, w2⟩ := A.at_ j _ ej
    rw [slotO_pin] at w2
    obtain ⟨w2, wp⟩ := w2
    rw [h1] at w1
    simp only [Option.some.injEq] at w1
    subst w1
    simp only [RepO] at w2
    obtain ⟨_, _, _, _, _, _, _, _, _, ⟨hc, _⟩, _⟩ := w2
    exact key _ (List.getElem?_eq_some_iff.mp ej).1 (slotO_pin.mpr ⟨core hc, wp⟩) e2.symm
  · cases e
/-- x.f = e, x a slot's owned object -/
def fldS (j : Nat) (al : List Nat) (i : Nat) (fe : EM) : SM := bS fe fun d env => match slIns j env with
  | some (c, fs) => if (al.contains c && decide (fs.length < 1000)) = true then toS (slInsPut j i d env) else none
  | none => none
theorem fldO_len : ∀ {fs : List (Nat × D)} {l : List (Str × V)} {fp : List Addr}, FldO T K F H fs l fp → fs.length = l.length
  | [], l, fp, h => by
    simp only [FldO] at h
    obtain ⟨rfl, _⟩ := h; rfl
  | (j, c) :: r, l, fp, h => by
    simp only [FldO] at h
    obtain ⟨n, w, l', f1, f2, rfl, _, _, _, _, h4⟩ := h
    simp [fldO_len h4]
theorem ds_fldS {x f : Str} {p pos pos' : Pos} {e : Expr} {fe : EM} {j : Nat} {al : List Nat} {i : Nat} (hj : PE X (.Name x p) (tVar j)) (he : DE T X P W e fe) (hs : swapsWith e (some (.Attribute (.Name x p) f pos')) pos.line X.env = pure false) (hf : T.fn[i]? = some f) (ho : ∀ c ∈ al, FOk T X.K c f) :
    DS1 T X P W (.Assign [.Attribute (.Name x p) f pos'] e pos) (fldS j al i fe) := by
  obtain ⟨t, pe, se⟩ := he.ex
  refine ⟨_, ps_fld hj pe hs, fun env o env' h F g σ H Z A post => ?_⟩
  refine soundS_bind se h A post.exx fun d e1 h1 v F1 g1 H1 G1 A1 R1 => ?_
  split at h1
  · rename_i c fs es
    split at h1
    · rename_i hc
      obtain ⟨c1, c2⟩ := Bool.and_eq_true_iff.mp hc
      obtain ⟨ep, rfl⟩ := toS_eq h1
      obtain ⟨a, dx, n, l, q1, q2, q3, g2, A2, G2⟩ := A1.slInsPut es ep hf R1.sh R1
      obtain ⟨a', dx', n', l', fq, u1, _, _, _, _, u6, u7⟩ := A1.slIns es
      rw [q1] at u1
      simp only [Option.some.injEq, V.ref.injEq] at u1
      subst u1
      rw [q3] at u6
      simp only [Option.some.injEq, HO.ins.injEq] at u6
      obtain ⟨_, _, rfl⟩ := u6
      obtain ⟨k1, k2⟩ := ho c (List.contains_iff_mem.mp c1) n q2
      exact ⟨_, q1, _, _, _, _, rfl, q3, k1, k2, by rw [← fldO_len u7]; exact of_decide_eq_true c2, post F1 g2 _ _ (G1.trans G2) A2⟩
    · cases h1
  · cases h1
end
end DS
namespace DS
open PySem PySem.Spec L2
section
variable {T : Tb} {X : Cx} {P : Nat → Option V} {W : WX} {K : PySem.W.Frag} {F F' F1 F2 H H' H1 H2 : Hp} {g g1 g2 : Nat → List Addr} {env env' : DEnv} {σ σ' : L2.St}
/-- what a callee that got only new things leaves of the caller's -/
theorem callee_abs (A : Abs T K P F g env σ H) (sF : Same F F1) (kH : ∀ a o, H a = some o → H1 a = some o) (kF : ∀ a o, H a = some o → F a = none → F1 a = none) (G : Grow F1 g1 H1 F2 g2 H2) (ng : ∀ i a, a ∈ g1 i → H a = none) (s : Same F2 H2) : Abs T K P F2 g env σ H2 ∧ Grow F g H F2 g H2 := by
  have nin : ∀ a o, H a = some o → ∀ i, a ∉ g1 i := fun a o e i hi => by rw [ng i a hi] at e; cases e
  have kp : ∀ a o, H a = some o → H2 a = some o := fun a o e => G.keep a o (nin a o e) (kH a o e)
  have fr : ∀ a o, H a = some o → (ntB o = true → F a = none) → (ntB o = true → F2 a = none) := fun a o e hf => G.fr a o (nin a o e) (kH a o e) fun hn => kF a o e (hf hn)
  refine ⟨⟨s, A.len, fun i d e => ?_, A.dis, A.out⟩, ⟨sF.trans G.sub, fun a o _ e => kp a o e, fun a o _ e hf => fr a o e hf, fun i a h => .inl ⟨i, h⟩⟩⟩
  obtain ⟨v, h1, h2⟩ := A.at_ i d e
  refine ⟨v, h1, slotO_keep (sF.trans G.sub) h2 (fun a _ o q => kp a o q) fun a ha => ?_⟩
  obtain ⟨h3, o, h4⟩ := A.inn i a ha
  exact fr a o h4 (fun _ => h3) (A.innT ha h4)
end
/-- named arguments -/
structure DK (T : Tb) (X : Cx) (P : Nat → Option V) (W : WX) (kws : List Keyword) (f : AM) : Prop where
  ex : ∃ t, PK X kws t ∧ SoundA T X.K P W f t
/-- a new object: the star's tuple, the named arguments -/
def dMakeA (c n n2 : Nat) (pd : List D → List D) (m : List D → Option (R × List D)) (fa fk : AM) : EM := bL fa fun ds => bL fk fun zs => fun env => if (decide (ds.length ≤ 16777216) && (decide (zs.length = n) && decide ((pd zs).length = n2))) = true then (match m (.pin (.ins c []) :: (pd zs ++ [.tup ds])) with
  | some (.ok .non, [s]) => some (.ok s, env)
  | _ => none) else none
def spStar (T : Tb) (K : PySem.W.Frag) (n : Nat) (pv : List V → List V) (m : List D → Option (R × List D)) : SpA := fun vs zs H Q E => ∃ x rest, vs = x :: rest ∧ rest.length ≤ sizeLine ∧ ∀ p, H p = none → spG T K n m (x :: (pv zs ++ [.ref p])) (upd H p (.tup rest)) Q E
section
variable {T : Tb} {X : Cx} {P : Nat → Option V} {W : WX} {K : PySem.W.Frag} {F F' F1 H H' H1 : Hp} {g g1 : Nat → List Addr} {env env' : DEnv} {σ : L2.St}
theorem do_makeA {k c n n2 : Nat} {pd : List D → List D} {pv : List V → List V} {f : Addr} {cnm : Str} {ks : List Str} {m : List D → Option (R × List D)} {x : Str} {p pos : Pos} {e : Expr} {es : List Expr} {kws : List Keyword} {fa fk : AM} (hc : c ∈ T.hs) (hcn : T.cn[c]? = some cnm) (M : Mk X.K (He.ga X.K cnm) f) (FN : FnA X.prog X.w X.K X.mg X.base (L2.CX X.prog X.w) k f ks (spStar T X.K (n2 + 2) pv m)) (hn : ks.length = n) (hpv : ∀ (F : Hp) zs ws, Reps T X.K F zs ws → Reps T X.K F (pd zs) (pv ws)) (hr : Room (k + 1) X.A) (hg : Gl X x) (hm : X.mg x = some (.ref (He.ga X.K cnm)))
    (ha : DA T X P W (e :: es) fa) (hk : DK T X P W kws fk)
    (hall : ((backToKw pos (keywordEach kws X.env)).all fun x => x.fst.isSome) = true) (hks : List.filterMap (fun x => x.fst) (backToKw pos (keywordEach kws X.env)) = ks) (hdb : (x == Str.ofString "__debug__") = false) (he : starEach (e :: es) X.env = (false, eval e X.env) :: starEach es X.env)
    (hpl : (((backTo pos (starEach (e :: es) X.env)).any fun x => x.fst) || (backToKw pos (keywordEach kws X.env)).any fun x => x.fst.isNone) = false) : DO T X P W ((Expr.Name x p).Call (e :: es) kws pos) (dMakeA c n n2 pd m fa fk) := by
  obtain ⟨ta, pa, sa⟩ := ha.ex
  obtain ⟨tk, pk, sk⟩ := hk.ex
  refine ⟨_, pe_makeA (E := fun _ _ _ => False) M FN hr hg hm (fun pins σ H s e s' I c => by obtain ⟨_, _, _, _, _, _, _, _, _, _, _, _, q⟩ := c; exact q.elim) pa pk hall hks hdb he hpl, fun env o env' h F g σ H Q A post => ?_⟩
  refine soundL_bind sa h A post.exx fun ds e1 h1 vs F1 g1 H1 G1 A1 R1 => ?_
  refine soundL_bind sk h1 A1 (post.grow G1).exx fun zs e2 h2 ws F2 g2 H2 G2 A2 R2 => ?_
  have G := G1.trans G2
  split at h2
  · rename_i hl'
    obtain ⟨hl, hz⟩ := Bool.and_eq_true_iff.mp hl'
    obtain ⟨hz, hz2⟩ := Bool.and_eq_true_iff.mp hz
    have hz2 := of_decide_eq_true hz2
    have hl := of_decide_eq_true hl
    have hz := of_decide_eq_true hz
    split at h2
    · rename_i s em
      simp only [Option.some.injEq, Prod.mk.injEq] at h2
      obtain ⟨rfl, rfl⟩ := h2
      have R1' := R1.mono G2.sub
      refine ⟨by rw [← R2.length, hz, hn], fun a dx na ndx ne => ?_⟩
      refine ⟨.ref a, vs, rfl, by rw [← R1'.length, lim_eq]; exact hl, fun q hq => ?_⟩
      have qa : q ≠ a := fun z => by subst z; rw [upd_same] at hq; cases hq
      rw [upd_ne qa] at hq
      have qd : q ≠ dx := fun z => by subst z; rw [upd_same] at hq; cases hq
      rw [upd_ne qd] at hq
      have kH : ∀ b o, H2 b = some o → upd (upd (upd H2 dx (.own a)) a (.ins (He.ga X.K cnm) dx [])) q (.tup vs) b = some o := fun b o eb => by
        rw [upd_ne (ne_of_none eb hq), upd_ne (ne_of_none eb na), upd_ne (ne_of_none eb ndx)]; exact eb
      have fq : F2 q = none := A2.sub.free hq
      have fa : F2 a = none := A2.sub.free na
      have sF : Same F2 (upd F2 q (.tup vs)) := fun b u eb => by rw [upd_ne (ne_of_none eb fq)]; exact eb
      have sH : Same (upd F2 q (.tup vs)) (upd (upd (upd H2 dx (.own a)) a (.ins (He.ga X.K cnm) dx [])) q (.tup vs)) := fun b u eb => by
        by_cases z : b = q
        · subst z; rw [upd_same] at eb ⊢; exact eb
        · rw [upd_ne z] at eb
          exact kH b u (A2.sub _ _ eb)
      have RT : Reps T X.K (upd F2 q (.tup vs)) (pd zs ++ [.tup ds]) (pv ws ++ [.ref q]) := by
        refine (hpv _ _ _ (R2.mono sF)).append (Reps.cons ?_ Reps.nil)
        simp only [Rep]
        exact ⟨q, vs, rfl, .inl upd_same, R1'.mono sF⟩
      have RO : RepO T X.K (upd F2 q (.tup vs)) (upd (upd (upd H2 dx (.own a)) a (.ins (He.ga X.K cnm) dx [])) q (.tup vs)) (.own (.ins c [])) (.ref a) [a] := by
        simp only [RepO, FldO]
        exact ⟨a, dx, cnm, [], [], rfl, rfl, (fun h => by cases h), by rw [upd_ne (Ne.symm qa)]; exact fa, ⟨hc, hcn⟩, by rw [upd_ne (Ne.symm qa), upd_same], rfl, rfl⟩
      refine ⟨.pin (.ins c []) :: (pd zs ++ [.tup ds]), _, fun i => if i = 0 then [a] else [], .ok .non, [s], em, by simp [hz2], sH, args_one RO RT, fun v fp F5 g5 H5 G5 s5 A5 R5 n5 m5 => ?_⟩
      rw [putPins_one RT] at A5
      obtain ⟨v0, h0, R0⟩ := A5.at_ 0 (.pin s) rfl
      simp only [List.getElem?_cons_zero, Option.some.injEq] at h0
      subst h0
      have R0 : RepO T X.K F5 H5 (.own s) (.ref a) (g5 0) := R0
      obtain ⟨B, G6⟩ := callee_abs A2 sF kH (fun b o eb hf => by rw [upd_ne (ne_of_none eb hq)]; exact hf) G5 (fun i b hb => by
        split at hb
        · obtain rfl : b = a := by simpa using hb
          exact na
        · cases hb) s5
      have nf : ∀ b ∈ g5 0, H2 b = none := fun b hb => by
        rcases G5.new 0 b hb with ⟨i, hi⟩ | hi
        · split at hi
          · obtain rfl : b = a := by simpa using hi
            exact na
          · cases hi
        · cases eb : H2 b with
          | none => rfl
          | some o => rw [kH b o eb] at hi; cases hi
      refine ⟨?_, post (.ref a) (g5 0) F5 g2 H5 (G.trans G6) B R0 (fun i b hb hi => ?_) fun b hb => G.back (.inr (nf b hb))⟩
      · rw [repO_sh rfl] at R5
        simpa only [Rep] using R5.2
      · obtain ⟨_, o, eb⟩ := A2.inn i b hi
        rw [nf b hb] at eb; cases eb
    · cases h2
  · cases h2
theorem dk_nil : DK T X P W [] aNil := by
  refine ⟨_, pk_nil, fun env o env' h F g σ H Q A post => ?_⟩
  unfold aNil at h
  simp only [Option.some.injEq, Prod.mk.injEq] at h
  obtain ⟨rfl, rfl⟩ := h
  exact post [] F g H (Grow.refl _ _ _) A rfl
theorem dk_cons {e : Expr} {fe : EM} {kws : List Keyword} {fr : AM} {nm : Option Str} {kpos : Pos} (he : DE T X P W e fe) (hr : DK T X P W kws fr) : DK T X P W (⟨nm, e, kpos⟩ :: kws) (aCons fe fr) := by
  obtain ⟨te, pe, se⟩ := he.ex
  obtain ⟨tr, pr, sr⟩ := hr.ex
  refine ⟨_, pk_cons pe pr, fun env o env' h F g σ H Q A post => ?_⟩
  refine soundAA_bind se h A post.exx fun x e1 h1 v F1 g1 H1 G1 A1 R1 => ?_
  refine soundMap_bind sr h1 A1 (post.grow G1).exx fun xs hx vs F2 g2 H2 G2 A2 R2 => ?_
  subst hx
  exact post (v :: vs) F2 g2 H2 (G1.trans G2) A2 ⟨v, vs, rfl, Rep.mono G2.sub _ _ R1, R2⟩
end
/-- a body keeps its promise -/
theorem body_ok {T : Tb} {X : Cx} {N ps : List Str} {sm : SM} {scope : Scope} {body : List Stmt} {E : XK} (S : FnScope N ps scope) (hb : ∀ PP : Nat → Option V, DSs T X PP (fun cls d _ H => E cls d H) body sm) {vs : List V} {H : Hp} {Q : VK} (hsp : spG T X.K ps.length (runD N.length sm) vs H Q E) :
    ∃ t, PSs X body t ∧ t { nx := fun _ H' => Q .non H', rt := Q } (L2.start N vs) H := by
  obtain ⟨ds, F, g, r, outs, hm, hl, hs, hA, post⟩ := hsp
  obtain ⟨t, ht, st⟩ := (hb (pinP ds vs)).ex
  refine ⟨t, ht, ?_⟩
  unfold runD fin at hm
  have hpl : ps.length ≤ N.length := by have := congrArg List.length S.pre; rw [List.length_take] at this; omega
  have A0 : Abs T X.K (pinP ds vs) F g (startD N.length ds) (L2.start N vs) H := start_abs rfl hs hA (by omega)
  cases e : sm (startD N.length ds) with
  | none => rw [e] at hm; cases hm
  | some p =>
    obtain ⟨o, env'⟩ := p
    rw [e] at hm
    refine st _ _ _ e F g _ H _ A0 ?_
    cases o with
    | nx =>
      simp only [Option.map_eq_some_iff] at hm
      obtain ⟨outs', ho, hq⟩ := hm
      obtain ⟨rfl, rfl⟩ := Prod.mk.inj hq
      intro F1 g1 σ1 H1 G1 B1
      refine post V.non [] F1 _ H1 (end_grow G1) B1.sub (end_args hA G1 B1 ho) (by simp [RepO, Rep]) (fun _ _ h => by cases h) fun _ h => by cases h
    | rt d =>
      simp only [Option.map_eq_some_iff] at hm
      obtain ⟨outs', ho, hq⟩ := hm
      obtain ⟨rfl, rfl⟩ := Prod.mk.inj hq
      intro v fp F1 g1 σ1 H1 G1 B1 R1 n1 m1
      refine post v fp F1 _ H1 (end_grow G1) B1.sub (end_args hA G1 B1 ho) R1 (fun i x hx hi => ?_) m1
      have hi' : x ∈ (match ds[i]? with | some (.pin _) => g1 i | _ => ([] : List Addr)) := hi
      split at hi'
      · exact n1 i x hx hi'
      · cases hi'
    | ex c fs =>
      simp only [Option.map_eq_some_iff] at hm
      obtain ⟨outs', ho, hq⟩ := hm
      obtain ⟨rfl, rfl⟩ := Prod.mk.inj hq
      intro σ1 cls dd F1 g1 H1 G1 B1 R1
      exact post cls dd F1 _ H1 (end_grow G1) B1.sub (end_args hA G1 B1 ho) R1
    | bk => cases hm
    | ct => cases hm
/-! ### the order of named arguments -/
def pxD (ix : List Nat) (ds : List D) : List D := ix.map fun i => ds.getD i .non
def pxV (ix : List Nat) (vs : List V) : List V := ix.map fun i => vs.getD i .non
def pxU (ix : List Nat) (us : List Value) : List Value := ix.map fun i => us.getD i .none
theorem px_reps {T : Tb} {K : PySem.W.Frag} {F : Hp} (ix : List Nat) {zs : List D} {ws : List V} (h : Reps T K F zs ws) : Reps T K F (pxD ix zs) (pxV ix ws) := by
  induction ix with
  | nil => exact Reps.nil
  | cons i ix ih =>
    refine Reps.cons ?_ ih
    show Rep T K F (zs.getD i .non) (ws.getD i .non)
    rw [List.getD_eq_getElem?_getD, List.getD_eq_getElem?_getD]
    have hl := h.length
    cases q : zs[i]? with
    | none =>
      have q2 : ws[i]? = none := by rw [List.getElem?_eq_none_iff] at q ⊢; omega
      rw [q2]
      exact rep_non
    | some d =>
      obtain ⟨v, hv, r⟩ := h.get q
      rw [hv]
      exact r
theorem vals_get {vs : List V} {us : List Value} (h : Vals vs us) (i : Nat) : RelV (vs.getD i .non) (us.getD i .none) := by
  induction h generalizing i with
  | nil => simp [RelV]
  | cons r _ ih =>
    cases i with
    | zero => exact r
    | succ i => exact ih i
theorem px_rel (ix : List Nat) {zs : List V} {ws : List Value} (h : Vals zs ws) : Vals (pxV ix zs) (pxU ix ws) := by
  induction ix with
  | nil => exact .nil
  | cons i ix ih => exact .cons (vals_get h i) ih
/-- a maker with a star's parameter; ms: the named ones that lack; ix: the order of the given ones and these -/
theorem init_ok {T : Tb} {P : Program} {w : World} {K : PySem.W.Frag} {mg : Str → Option Value} {base : Heap} {name qual : Str} {params : Arguments} {body : List Stmt} {scope : Scope} {kws : List (Str × V)} {f : Addr} {fd : FuncData} {k : Nat} {N ps ks : List Str} {sm : SM} {n2 : Nat} {ix : List Nat} {ms : List (Str × V)}
    (FD : FunD K name qual params body scope [] kws f fd) (S : FnScope N ps scope) (hps : ps.length = n2 + 2) (hk : kws ≠ []) (hms : ∀ q ∈ ms, q ∈ kws) (hix : ix.length = n2)
    (hbi : ∀ (dict : Addr) (doc pm : Value) (an : Option Addr) (cdv ct u : Value) (rest ws mv : List Value), ws.length = ks.length → mv.length = ms.length → KwTo dict ((ms.map (·.1)).zip mv) (bindArgs (PySem.W.fnOf name qual params body scope .none (.ref dict) doc pm an cdv ct) { pos := u :: rest, kw := ks.zip ws })
      (newTuple rest >>= fun t => pure (ps.zip (u :: (pxU ix (ws ++ mv) ++ [t])))))
    (hb : ∀ (cdv : Value) (A : Around) (outer : List Env) (s : Shared) (H : Hp) (E : XK) (PP : Nat → Option V), Room k (A.deeper (PyProof.Rows.envOfC qual scope s.heap.objs.size f cdv)) →
      DSs T (cxOf (L2.CX P w) P w K mg base N qual scope f cdv A outer s H E) PP (fun cls d _ H => E cls d H) body sm) :
    FnA P w K mg base (L2.CX P w) (k + 1) f ks (spStar T K (n2 + 2) (fun zs => pxV ix (zs ++ ms.map (·.2))) (runD N.length sm)) := by
  obtain ⟨oc, od, dV, kV, doc, pm, an, cdv, ct, osl, rfl, lk, hcd, q1, q2⟩ := FD.ex
  rcases q1 with ⟨_, rfl⟩ | ⟨e, _⟩
  · rcases q2 with e | ⟨dict, rfl, hq⟩
    · exact absurd e hk
    · obtain ⟨mv, hml, hmr, hmk⟩ := kwd_vals (ms := ms) fun q hq2 => hq q (hms q hq2)
      have core := fnA_star (gl := fun u t ws => u :: (pxU ix (ws ++ mv) ++ [t])) (gV := fun x p zs => x :: (pxV ix (zs ++ ms.map (·.2)) ++ [p])) (ks := ks) (sp := spG T K ps.length (runD N.length sm)) (k := k) (N := N) lk hcd S (StX.cxUp (P := P) (w := w)) hmk (fun u rest ws hl => hbi dict doc pm an cdv ct u rest ws mv hl hml)
        (fun rx rp rz lz => ⟨.cons rx ((px_rel ix (rz.append hmr)).append (.cons rp .nil)), by simp [pxV, hix, hps]⟩)
        (P := P) (w := w) (mg := mg) (base := base) (fun A outer s H vs Q E hr hsp => body_ok S (fun PP => hb cdv A outer s H E PP hr) hsp)
      intro A outer s H us ws vs zs Q E hr e0 r rz lz hq2
      refine core A outer s H us ws vs zs Q E hr e0 r rz lz ?_
      rw [hps]
      exact hq2
  · exact absurd rfl e
end DS
namespace DS
open PySem PySem.Spec L2
/-! ### methods and properties of plain objects (no error comes out) -/
def callM (c n : Nat) (m : List D → Option (R × List D)) (x : D) (ds : List D) : EM := fun env => match x with
  | .ins c' _ => if (decide (c' = c) && decide (ds.length + 1 = n)) = true then (match m (x :: ds) with
    | some (.ok d, []) => if d.sh = true then some (.ok d, env) else none
    | _ => none) else none
  | _ => none
def isC (c : Nat) : D → Bool
  | .ins c' _ => decide (c' = c)
  | _ => false
def onC (c : Nat) (x : D) (f : EM) : EM := fun env => if isC c x = true then f env else none
def dMeth (c n : Nat) (m : List D → Option (R × List D)) (fe : EM) (fa : AM) : EM := bE fe fun x => onC c x (bL fa fun ds => callM c n m x ds)
/-- the same, the answer owned -/
def callMO (c n : Nat) (m : List D → Option (R × List D)) (x : D) (ds : List D) : EM := fun env => match x with
  | .ins c' _ => if (decide (c' = c) && decide (ds.length + 1 = n)) = true then (match m (x :: ds) with
    | some (.ok (.own d), []) => some (.ok d, env)
    | _ => none) else none
  | _ => none
def dMethO (c n : Nat) (m : List D → Option (R × List D)) (fe : EM) (fa : AM) : EM := bE fe fun x => onC c x (bL fa fun ds => callMO c n m x ds)
def dProp (c : Nat) (m : List D → Option (R × List D)) (fe : EM) : EM := bE fe fun x => onC c x (callM c 1 m x [])
section
variable {T : Tb} {X : Cx} {P : Nat → Option V} {W : WX} {K : PySem.W.Frag} {F F' F1 H H' H1 : Hp} {g g1 : Nat → List Addr} {env env' : DEnv} {σ : L2.St}
theorem repF_none {x : Str} (hx : x ∉ T.fn) : ∀ {fs : List (Nat × D)} {l : List (Str × V)}, RepF T K F fs l → l.lookup x = none
  | [], l, h => by simp only [RepF] at h; subst h; rfl
  | (j, c) :: r, l, h => by
    simp only [RepF] at h
    obtain ⟨n, v, l', rfl, h2, h3, h4⟩ := h
    rw [List.lookup_cons]
    have hn : (x == n) = false := by
      cases z : (x == n) with
      | false => rfl
      | true =>
        have := eq_of_beq z
        subst this
        exact absurd (List.mem_of_getElem? h2) hx
    rw [hn]
    exact repF_none hx h4
theorem E0_pass : Passes (L2.CX X.prog X.w) X (fun _ _ _ => False) := fun pins σ H s e s' I c => by obtain ⟨_, _, _, _, _, _, _, _, _, _, _, _, q⟩ := c; exact q.elim
theorem sound_callM {c n : Nat} {m : List D → Option (R × List D)} {x : D} {ds : List D} {v : V} {vs : List V} {r : R} {Q : VK} (h : callM c n m x ds env = some (r, env')) (A : Abs T K P F g env σ H) (R1 : Rep T K F x v) (R0 : Reps T K F ds vs) (post : PostE T K P W env' F g σ H Q r) : spG T K n m (v :: vs) H Q (fun _ _ _ => False) := by
  unfold callM at h
  split at h
  · rename_i c' fs
    split at h
    · rename_i hc
      obtain ⟨_, hn⟩ := Bool.and_eq_true_iff.mp hc
      have hn := of_decide_eq_true hn
      split at h
      · rename_i d em
        split at h
        · rename_i hd
          simp only [Option.some.injEq, Prod.mk.injEq] at h
          obtain ⟨rfl, rfl⟩ := h
          have RR := Reps.cons R1 R0
          refine ⟨_, F, fun _ => [], .ok d, [], em, by simpa using hn, A.sub, args_plain RR, fun u fp F' g' H' G s A' R' n' m' => ?_⟩
          rw [pinless RR] at A'
          have eg := args_g RR A'
          subst eg
          obtain ⟨B, G'⟩ := plain_abs A G s
          exact post u F' g H' G' B ((repO_sh hd).mp R').2
        · cases h
      · cases h
    · cases h
  · cases h
theorem sound_callMO {c n : Nat} {m : List D → Option (R × List D)} {x : D} {ds : List D} {v : V} {vs : List V} {r : R} {Q : VK} (h : callMO c n m x ds env = some (r, env')) (A : Abs T K P F g env σ H) (R1 : Rep T K F x v) (R0 : Reps T K F ds vs) (post : PostO T K P W env' F g σ H Q r) : spG T K n m (v :: vs) H Q (fun _ _ _ => False) := by
  unfold callMO at h
  split at h
  · rename_i c' fs
    split at h
    · rename_i hc
      obtain ⟨_, hn⟩ := Bool.and_eq_true_iff.mp hc
      have hn := of_decide_eq_true hn
      split at h
      · rename_i d em
        simp only [Option.some.injEq, Prod.mk.injEq] at h
        obtain ⟨rfl, rfl⟩ := h
        have RR := Reps.cons R1 R0
        refine ⟨_, F, fun _ => [], .ok (.own d), [], em, by simpa using hn, A.sub, args_plain RR, fun u fp F' g' H' G s A' R' n' m' => ?_⟩
        rw [pinless RR] at A'
        have eg := args_g RR A'
        subst eg
        obtain ⟨B, G'⟩ := plain_abs A G s
        have fr : ∀ x ∈ fp, H x = none := fun x hx => by
          rcases m' x hx with ⟨j, hj⟩ | q
          · cases hj
          · exact q
        refine post u fp F' g H' G' B R' (fun i x hx hi => ?_) fun x hx => .inr (fr x hx)
        obtain ⟨_, o, e⟩ := A.inn i x hi
        rw [fr x hx] at e; cases e
      · cases h
    · cases h
  · cases h
/-- what a class's method is -/
structure MFn (X : Cx) (k : Nat) (cnm mnm : Str) (ps : List Str) (sp : Sp) : Prop where
  cl : Cls X.K (He.ga X.K cnm)
  me : Meth X.K (He.ga X.K cnm) mnm (He.ma X.K (He.ga X.K cnm) mnm)
  ex : ∃ fd, FnOk X.prog X.w X.K X.mg X.base (L2.CX X.prog X.w) k (He.ma X.K (He.ga X.K cnm) mnm) fd ps sp ∧ Binds X.K fd ps []
theorem isC_at {c : Nat} {cnm mnm : Str} {x : D} {v : V} (hcn : T.cn[c]? = some cnm) (hmf : mnm ∉ T.fn) (s : Same F H) (h : isC c x = true) (r : Rep T K F x v) : ∃ a dx fs, v = .ref a ∧ H a = some (.ins (He.ga K cnm) dx fs) ∧ fs.lookup mnm = none := by
  cases x with
  | ins c' fs =>
    have e := of_decide_eq_true h
    subst e
    simp only [Rep] at r
    obtain ⟨a, dx, n, l, rfl, ⟨_, hn⟩, h3, h4⟩ := r
    rw [hcn] at hn
    simp only [Option.some.injEq] at hn
    subst hn
    exact ⟨a, dx, l, rfl, s _ _ h3, repF_none hmf h4⟩
  | _ => cases h
section
variable {k k' c n : Nat} {cnm mnm : Str} {ps : List Str} {m : List D → Option (R × List D)} {o e : Expr} {es : List Expr} {fo : EM} {fa : AM} {apos pos : Pos} {pl : Sem Bool}
theorem do_meth0 (hcn : T.cn[c]? = some cnm) (G : MFn X k cnm mnm ps (spG T X.K n m)) (hr : Room k' X.A) (hk : k ≤ k') (hmf : mnm ∉ T.fn) (ho : DE T X P W o fo)
    (hev : eval ((o.Attribute mnm apos).Call [] [] pos) X.env = do
      let ov ← eval o X.env
      standAt apos.atName
      let __x ← holding [ov] (getMethod ov mnm pl)
      match __x with
        | (f, first) => callWith pos f first (backTo pos (starEach [] X.env)) (backToKw pos (keywordEach [] X.env))) :
    DO T X P W (.Call (.Attribute o mnm apos) [] [] pos) (dMethO c n m fo aNil) := by
  obtain ⟨to, po, so⟩ := ho.ex
  obtain ⟨fd, FN, b⟩ := G.ex
  refine ⟨_, pe_meth0 po G.cl G.me FN (room_le hr hk) b .nil E0_pass hev, fun env o env' h F g σ H Q A post => ?_⟩
  refine soundE_bind so h A post.exx fun x e1 h1 v F1 g1 H1 G1 A1 R1 => ?_
  unfold onC at h1
  split at h1
  · rename_i hc
    obtain ⟨a, dx, fs, rfl, q1, q2⟩ := isC_at hcn hmf A1.sub hc R1
    exact ⟨a, dx, fs, rfl, q1, q2, sound_callMO (ds := []) h1 A1 R1 Reps.nil (post.grow G1)⟩
  · cases h1
/-- what a class's property is -/
structure PFn (X : Cx) (k : Nat) (cnm mnm : Str) (ps : List Str) (sp : Sp) : Prop where
  cl : Cls X.K (He.ga X.K cnm)
  ex : ∃ p g fd, PropOf X.K (He.ga X.K cnm) mnm p g ∧ FnOk X.prog X.w X.K X.mg X.base (L2.CX X.prog X.w) k g fd ps sp ∧ Binds X.K fd ps []
theorem de_prop (hcn : T.cn[c]? = some cnm) (G : PFn X k cnm mnm ps (spG T X.K 1 m)) (hr : Room k' X.A) (hk : k + 1 ≤ k') (hmf : mnm ∉ T.fn) (ho : DE T X P W o fo) (hat : attributeBase o mnm X.env (eval o X.env) = eval o X.env) :
    DE T X P W (.Attribute o mnm apos) (dProp c m fo) := by
  obtain ⟨to, po, so⟩ := ho.ex
  obtain ⟨p, g0, fd, PO, FN, b⟩ := G.ex
  refine ⟨_, pe_prop (E := fun _ _ _ => False) po G.cl PO FN (room_le hr hk) b .nil (fun pins σ H s e s' I c => by obtain ⟨_, _, _, _, _, _, _, _, _, _, _, _, q⟩ := c; exact q.elim) hat, fun env o env' h F g σ H Q A post => ?_⟩
  refine soundE_bind so h A post.exx fun x e1 h1 v F1 g1 H1 G1 A1 R1 => ?_
  unfold onC at h1
  split at h1
  · rename_i hc
    obtain ⟨a, dx, fs, rfl, q1, q2⟩ := isC_at hcn hmf A1.sub hc R1
    exact ⟨a, dx, fs, rfl, q1, sound_callM (ds := []) h1 A1 R1 Reps.nil (post.grow G1)⟩
  · cases h1
end
end
end DS
namespace DS
open PySem PySem.Spec L2
/-! ### methods of an object that a slot owns (no error comes out) -/
def callS0 (n : Nat) (m : List D → Option (R × List D)) (j : Nat) (ds : List D) : EM := fun env => if ds.length + 1 = n then (match env[j]? with
  | some (some (.own c)) => (match m (.pin c :: ds) with
    | some (.ok d, [c']) => if d.sh = true then some (.ok d, env.set j (some (.own c'))) else none
    | _ => none)
  | some (some (.pin c)) => (match m (.pin c :: ds) with
    | some (.ok d, [c']) => if d.sh = true then some (.ok d, env.set j (some (.pin c'))) else none
    | _ => none)
  | _ => none) else none
def callS0O (n : Nat) (m : List D → Option (R × List D)) (j : Nat) (ds : List D) : EM := fun env => if ds.length + 1 = n then (match env[j]? with
  | some (some (.own c)) => (match m (.pin c :: ds) with
    | some (.ok (.own d), [c']) => some (.ok d, env.set j (some (.own c')))
    | _ => none)
  | some (some (.pin c)) => (match m (.pin c :: ds) with
    | some (.ok (.own d), [c']) => some (.ok d, env.set j (some (.pin c')))
    | _ => none)
  | _ => none) else none
def onS (j c : Nat) (f : EM) : EM := fun env => match slIns j env with
  | some (c', _) => if c' = c then f env else none
  | none => none
def dMethS (j c n : Nat) (m : List D → Option (R × List D)) (fa : AM) : EM := onS j c (bL fa fun ds => callS0 n m j ds)
def dMethSO (j c n : Nat) (m : List D → Option (R × List D)) (fa : AM) : EM := onS j c (bL fa fun ds => callS0O n m j ds)
section
variable {T : Tb} {X : Cx} {P : Nat → Option V} {W : WX} {K : PySem.W.Frag} {F F' F1 H H' H1 : Hp} {g g1 : Nat → List Addr} {env env' : DEnv} {σ : L2.St}
theorem fldO_none {x : Str} (hx : x ∉ T.fn) : ∀ {fs : List (Nat × D)} {l : List (Str × V)} {fp : List Addr}, FldO T K F H fs l fp → l.lookup x = none
  | [], l, fp, h => by
    simp only [FldO] at h
    obtain ⟨rfl, _⟩ := h; rfl
  | (j, c) :: r, l, fp, h => by
    simp only [FldO] at h
    obtain ⟨n, w, l', f1, f2, rfl, _, _, h2, _, h4⟩ := h
    rw [List.lookup_cons]
    have hn : (x == n) = false := by
      cases z : (x == n) with
      | false => rfl
      | true =>
        have := eq_of_beq z
        subst this
        exact absurd (List.mem_of_getElem? h2) hx
    rw [hn]
    exact fldO_none hx h4
theorem sound_callS0 {n : Nat} {m : List D → Option (R × List D)} {j : Nat} {ds : List D} {v : V} {vs : List V} {r : R} {Q : VK} {E : XK} (h : callS0 n m j ds env = some (r, env')) (A : Abs T K P F g env σ H) (hv : σ[j]? = some (some v)) (R0 : Reps T K F ds vs)
    (post : PostE T K P W env' F g σ H Q r) : spG T K n m (v :: vs) H Q E := by
  unfold callS0 at h
  split at h
  · rename_i hn
    split at h
    · rename_i c e
      have hj : j < env.length := (List.getElem?_eq_some_iff.mp e).1
      obtain ⟨v', hv', hs⟩ := A.at_ j _ e
      rw [hv] at hv'
      simp only [Option.some.injEq] at hv'
      subst hv'
      split at h
      · rename_i d c' em
        split at h
        · rename_i hd
          simp only [Option.some.injEq, Prod.mk.injEq] at h
          obtain ⟨rfl, rfl⟩ := h
          refine ⟨.pin c :: ds, F, fun i => if i = 0 then g j else [], .ok d, [c'], em, by simpa using hn, A.sub, args_one hs R0, fun u fp F' g' H' G s A' R' n' m' => ?_⟩
          rw [putPins_one R0] at A'
          obtain ⟨B, G'⟩ := slot_back (w := D.own) (w' := D.own) A hv hj (fun _ _ _ _ h => h) hs (fun _ _ _ h => h) G s A' (reps_sh R0)
          exact post u F' _ H' G' B ((repO_sh hd).mp R').2
        · cases h
      · cases h
    · rename_i c e
      have hj : j < env.length := (List.getElem?_eq_some_iff.mp e).1
      obtain ⟨v', hv', hs⟩ := A.at_ j _ e
      rw [hv] at hv'
      simp only [Option.some.injEq] at hv'
      subst hv'
      split at h
      · rename_i d c' em
        split at h
        · rename_i hd
          simp only [Option.some.injEq, Prod.mk.injEq] at h
          obtain ⟨rfl, rfl⟩ := h
          refine ⟨.pin c :: ds, F, fun i => if i = 0 then g j else [], .ok d, [c'], em, by simpa using hn, A.sub, args_one hs.1 R0, fun u fp F' g' H' G s A' R' n' m' => ?_⟩
          rw [putPins_one R0] at A'
          obtain ⟨B, G'⟩ := slot_back (w := D.pin) (w' := D.pin) A hv hj (fun _ _ _ _ h => h) hs (fun _ _ _ h => ⟨h, hs.2⟩) G s A' (reps_sh R0)
          exact post u F' _ H' G' B ((repO_sh hd).mp R').2
        · cases h
      · cases h
    · cases h
  · cases h
variable {k k' c n j : Nat} {cnm mnm x : Str} {ps : List Str} {m : List D → Option (R × List D)} {e : Expr} {es : List Expr} {fa : AM} {p apos pos : Pos} {pl : Sem Bool}
theorem onS_at {f : EM} {r : R} (hcn : T.cn[c]? = some cnm) (hmf : mnm ∉ T.fn) (A : Abs T K P F g env σ H) (h : onS j c f env = some (r, env')) : f env = some (r, env') ∧ ∃ a dx fs, σ[j]? = some (some (.ref a)) ∧ H a = some (.ins (He.ga K cnm) dx fs) ∧ fs.lookup mnm = none := by
  unfold onS at h
  split at h
  · rename_i c' fs es
    split at h
    · rename_i ec
      subst ec
      obtain ⟨a, dx, n, l, fq, h1, _, _, _, h5, h6, h7⟩ := A.slIns es
      rw [hcn] at h5
      simp only [Option.some.injEq] at h5
      subst h5
      exact ⟨h, a, dx, l, h1, h6, fldO_none hmf h7⟩
    · cases h
  · cases h
theorem de_methS (hcn : T.cn[c]? = some cnm) (G : MFn X k cnm mnm ps (spG T X.K n m)) (hr : Room k' X.A) (hk : k ≤ k') (hmf : mnm ∉ T.fn) (hj : PE X (.Name x p) (tVar j)) (ha : DA T X P W (e :: es) fa)
    (he : starEach (e :: es) X.env = (false, eval e X.env) :: starEach es X.env) (hpl : ((backTo pos (starEach es X.env)).any fun x => x.fst) = false)
    (hev : eval (((Expr.Name x p).Attribute mnm apos).Call (e :: es) [] pos) X.env = do
      let ov ← eval (.Name x p) X.env
      standAt apos.atName
      let __x ← holding [ov] (getMethod ov mnm pl)
      match __x with
        | (f, first) => callWith pos f first (backTo pos (starEach (e :: es) X.env)) (backToKw pos (keywordEach [] X.env))) :
    DE T X P W (.Call (.Attribute (.Name x p) mnm apos) (e :: es) [] pos) (dMethS j c n m fa) := by
  obtain ⟨ta, pa, sa⟩ := ha.ex
  obtain ⟨fd, FN, b⟩ := G.ex
  refine ⟨_, pe_meth hj G.cl G.me FN (room_le hr hk) b .nil E0_pass pa he hpl hev, fun env o env' h F g σ H Q A post => ?_⟩
  obtain ⟨h1, a, dx, fs, q0, q1, q2⟩ := onS_at hcn hmf A h
  refine ⟨_, q0, a, dx, fs, rfl, q1, q2, ?_⟩
  refine soundL_bind sa h1 A post.exx fun ds e2 h2 vs F2 g2 H2 G2 A2 R2 => ?_
  rw [List.append_nil]
  exact sound_callS0 h2 A2 q0 R2 (post.grow G2)
end
end DS
namespace DS
open PySem PySem.Spec L2
/-! ### a list, repeated -/
def oRep (x y : D) : Option D := match x, y with
  | .lst xs, .int k => if (geI 9223372036854775808 k && (ltI 9223372036854775808 k && Nat.ble (xs.length * k.toNat) 16777216)) = true then some (.lst (List.replicate k.toNat xs).flatten) else none
  | _, _ => none
def absI (i : Int) : Bool := geI 18446744073709551615 i && ltI 18446744073709551616 i
def oMulI (x y : D) : Option D := match x, y with
  | .int i, .int j => if (absI i || absI j) = true then some (.int (i * j)) else none
  | _, _ => none
def oMulA (x y : D) : Option D := (oMulI x y).or (oRep x y)
section
variable {T : Tb} {K : PySem.W.Frag} {F F' H H' : Hp}
theorem reps_rep {ds : List D} {vs : List V} (h : Reps T K F ds vs) : ∀ n : Nat, Reps T K F (List.replicate n ds).flatten (List.replicate n vs).flatten
  | 0 => Reps.nil
  | n + 1 => by
    rw [List.replicate_succ, List.replicate_succ, List.flatten_cons, List.flatten_cons]
    exact h.append (reps_rep h n)
theorem s_rep : OpS T K rRep oRep := by
  intro x y z e F H vx vy Q s rx ry q
  unfold oRep at e
  split at e
  · rename_i xs k
    split at e
    · rename_i c
      obtain ⟨c1, c2⟩ := Bool.and_eq_true_iff.mp c
      obtain ⟨c2, c3⟩ := Bool.and_eq_true_iff.mp c2
      have c1 := geI_iff.mp c1
      have c2 := ltI_iff.mp c2
      have c3 := Nat.ble_eq.mp c3
      cases e
      simp only [Rep] at rx ry
      obtain ⟨a, vs, rfl, h1, h2⟩ := rx
      refine ⟨a, k, vs, rfl, ry, s _ _ h1, by omega, by omega, by rw [← h2.length, lim_eq]; exact c3, fun p hp => ?_⟩
      exact q _ _ _ (.one hp) (rep_newL s hp (reps_rep h2 _))
    · cases e
  · cases e
theorem s_mulI : OpS T K (rI CMul fun i j => .int (i * j)) oMulI := by
  intro x y z e F H vx vy Q s rx ry q
  unfold oMulI at e
  split at e
  · rename_i i j
    split at e
    · rename_i c
      cases e
      simp only [Rep] at rx ry
      refine ⟨i, j, rx, ry, ?_, q _ F H .refl rep_int⟩
      unfold CMul
      rcases Bool.or_eq_true_iff.mp c with c | c
      · obtain ⟨c1, c2⟩ := Bool.and_eq_true_iff.mp c
        have := geI_iff.mp c1
        have := ltI_iff.mp c2
        exact .inl ⟨by omega, by omega⟩
      · obtain ⟨c1, c2⟩ := Bool.and_eq_true_iff.mp c
        have := geI_iff.mp c1
        have := ltI_iff.mp c2
        exact .inr ⟨by omega, by omega⟩
    · cases e
  · cases e
theorem op_mulA {X : Cx} : OpR X (binaryOp .Mult) (fun x y H Q => (rI CMul fun i j => .int (i * j)) x y H Q ∨ rRep x y H Q) := OpR.or op_mul op_rep
theorem s_mulA : OpS T K (fun x y H Q => (rI CMul fun i j => .int (i * j)) x y H Q ∨ rRep x y H Q) oMulA := OpS.or s_mulI s_rep
end
end DS
namespace DS
open PySem PySem.Spec L2
/-! ### enumerate of a tuple -/
theorem meets_enumT (l : Addr) (items : Array Value) (n : Nat) (dct : Option Addr) (sl : Array (Option Value)) : Meets (Builtin.«enumerate.__new__» { pos := [Value.type "enumerate", Value.ref l] }) fun x R s =>
    s.heap.get? l = some { cls := Value.type "tuple", dict := dct, data := Data.seq items n, slots := sl } ∧
      R (Except.ok (Flow.ret (Value.ref (s.heap.push { cls := Value.type "tuple_iterator", data := Data.fields #[Value.ref l, Value.int 0 0] }).objs.size)))
        { heap := (s.heap.push { cls := Value.type "tuple_iterator", data := Data.fields #[Value.ref l, Value.int 0 0] }).push
              { cls := Value.type "enumerate", data := Data.fields #[Value.none, Value.bool false, Value.ref s.heap.objs.size, rawInt 0, Value.none, Value.none] },
          gens := s.gens, drawn := s.drawn, toks := s.toks, os := s.os } := by
  refine Meets.of_wp fun prog w A R s h => ?_
  obtain ⟨hl, hR⟩ := h
  unfold Builtin.«enumerate.__new__»
  have hsub := sub_enumerate
  refine wpAny_bind ?_
  refine wpAny_bind ?_
  refine wpAny_pure ?_
  refine wpAny_ite_false rfl ?_
  refine wpAny_bind ?_
  refine wpAny_of_eq hsub ?_
  refine wpAny_ite_false rfl ?_
  refine wpAny_pure ?_
  refine wpAny_ite_true rfl ?_
  refine wpAny_bind ?_
  unfold Builtin.SmallTypes.calledThroughType
  refine wpAny_bind ?_
  refine wpAny_stack_any fun st => ?_
  refine wpAny_pure ?_
  have tl : s.heap.IsTuple l items := ⟨_, hl, rfl, n, rfl⟩
  have fin : ∀ b : Bool, b = true ∨ b = false := fun b => by cases b <;> simp
  split
  case' h_1 => rename_i c _ _ _ _ _; rcases fin (c == Value.type "enumerate") with q | q <;> rw [q]
  all_goals
    first | refine wpAny_ite_true rfl ?_ | refine wpAny_ite_false (Eq.refl (decide (false = true))) ?_
    refine wpAny_bind ?_
    refine wpAny_of_eq rfl ?_
    refine wpAny_bind (wpAny_pyIter_tuple tl ?_)
    refine wpAny_bind ?_
    unfold Builtin.SmallTypes.newRecord
    refine wpAny_bind (wpAny_alloc ?_); refine wpAny_pure ?_; refine wpAny_pure ?_; exact ⟨_, rfl, hR⟩
theorem call_enumT {prog : Program} {w : World} {A : Around} {E : Value → Shared → Prop} {s : Shared} {l : Addr} {items : Array Value} {n : Nat} {dct : Option Addr} {sl : Array (Option Value)} {Q : Value → Shared → Prop} (hl : s.heap.get? l = some { cls := .type "tuple", dict := dct, data := .seq items n, slots := sl })
    (h : ∀ h' : Heap, IsEnum h' (s.heap.objs.size + 1) s.heap.objs.size 0 .none → h'.IsTupleIter s.heap.objs.size l 0 → h'.objs.size = s.heap.objs.size + 2 → (∀ (b : Addr) (o : Obj), s.heap.get? b = some o → h'.get? b = some o) →
      Q (.ref (s.heap.objs.size + 1)) { heap := h', gens := s.gens, drawn := s.drawn, toks := s.toks, os := s.os }) : wpAny (model prog w) A (call (.type "enumerate") [.ref l]) Q E s := by
  refine callType_new F.called_enumerate (by decide) (F.typeCall_enumerate_1 (.ref l)) (F.newCall_enumerate_1 (.ref l)) (fun obj => F.args_object_init_2 obj (.ref l)) F.entry_enumerate_new (meets_enumT l items n dct sl) ⟨hl, ?_⟩
  have hz := Heap.size_push s.heap { cls := .type "tuple_iterator", data := .fields #[.ref l, .int 0 0] }
  have he := Heap.get?_push_size (s.heap.push { cls := .type "tuple_iterator", data := .fields #[.ref l, .int 0 0] }) (o := { cls := .type "enumerate", data := .fields #[.none, .bool false, .ref s.heap.objs.size, rawInt 0, .none, .none] }) rfl
  rw [hz] at he
  have hi := Heap.get?_push_of_some { cls := .type "enumerate", data := .fields #[.none, .bool false, .ref s.heap.objs.size, rawInt 0, .none, .none] } (Heap.get?_push_size s.heap (o := { cls := .type "tuple_iterator", data := .fields #[.ref l, .int 0 0] }) rfl)
  rw [hz]
  refine ⟨⟨_, he, rfl⟩, h _ he ⟨_, hi, rfl, rfl⟩ ?_ fun b o q => ?_⟩
  · rw [Heap.size_push, hz]
  · exact Heap.get?_push_of_some _ (Heap.get?_push_of_some _ q)
end DS
namespace DS
open PySem PySem.Spec PyProof.Rows L2
/-! ### the walk of enumerate over a tuple -/
def IteT (K : PySem.W.Frag) (t : Addr) (ys : List V) : It where
  go := fun i H => SqT K H t ys ∧ i < ys.length
  yld := fun i H v H' => ∃ T y, v = .ref T ∧ H T = none ∧ H' = upd H T (.tup [.int (i : Nat), y]) ∧ ys[i]? = some y
  stop := fun i H => SqT K H t ys ∧ ys.length ≤ i
theorem apartT {h : Heap} {t e : Addr} {items : Array Value} {o : Obj} (ht : h.IsTuple t items) (he : h.get? e = some o) (hc : o.cls ≠ .type "tuple") : e ≠ t := by
  rintro rfl
  obtain ⟨o2, h2, c2, _⟩ := ht
  rw [he] at h2
  cases h2
  exact hc c2
theorem turn_enumT {P : Program} {w : World} {K : PySem.W.Frag} {elts : List Expr} {kk : Nat} {tpos : Pos} (t e it : Addr) (ys : List V) :
    Turn P w K (.Tuple elts kk tpos) (IteT K t ys) [e, it] e (fun i h => (∃ old, IsEnum h e it ((i : Nat) : Int) old) ∧ (h.IsTupleIter it t i ∧ (e ≠ it ∧ i ≤ ys.length))) where
  mem := List.mem_cons_self
  obj := fun i h st b hb => by
    obtain ⟨⟨old, he⟩, ⟨o, ho, hc, hd⟩, _⟩ := st
    rcases List.mem_cons.mp hb with rfl | hb
    · exact ⟨_, he, fun v q => nomatch q⟩
    · obtain rfl := List.mem_singleton.mp hb
      exact ⟨o, ho, fun v q => by rw [hd] at q; cases q⟩
  keep := fun i h h' st k => by
    obtain ⟨⟨old, he⟩, hi, hne, hin⟩ := st
    exact ⟨⟨old, k e (by simp) _ he⟩, hi.at fun o q => k it (by simp) o q, hne, hin⟩
  item := by
    intro X hP hw hK hc i pins s σ H E I hf st hg
    cases hP; cases hw; cases hK
    obtain ⟨⟨old, he⟩, hit, hne, hin⟩ := st
    obtain ⟨hq, hlt⟩ := hg
    obtain ⟨y, hy⟩ : ∃ y, ys[i]? = some y := ⟨ys[i], List.getElem?_eq_getElem hlt⟩
    obtain ⟨its, rv, p, hz⟩ := I.tuple hq
    obtain ⟨u, hu, ru⟩ := rv.get hy
    have pt : s.heap.IsTuple t its.toArray := p
    have hel : e < s.heap.objs.size := Heap.lt_size he
    have hil : it < s.heap.objs.size := by obtain ⟨_, q, _⟩ := hit; exact Heap.lt_size q
    have et : e ≠ t := apartT pt he (by intro z; simp at z)
    have ti : t ≠ it := by
      obtain ⟨o, ho, oc, _⟩ := hit
      exact (apartT pt ho (by rw [oc]; intro z; simp at z)).symm
    have hsz : i < its.length := by
      rcases Nat.lt_or_ge i its.length with z | z
      · exact z
      · rw [List.getElem?_eq_none z] at hu; cases hu
    refine wpAny_pyNext_enum_itemD (Draws.tuple (A := X.A.in1) (show X.A.in1.handled = none from I.ok.hd hc) it t ti its.toArray) he ⟨hit, pt⟩ (by simpa using hsz) hne (by simp [hne, et]) fun x h' tk px ho hst hT hs hk => ?_
    have hx : x = u := by
      have e1 : its.toArray[i]? = some x := px
      rw [List.getElem?_toArray, hu] at e1
      exact (Option.some.inj e1).symm
    cases hx
    refine ⟨_, rfl, wpAny_letOwnedTupleGo_enum (s := { s with heap := h', toks := tk + 1 }) ho fun h'' he' sb => ?_⟩
    have T2 : h''.get? s.heap.objs.size = some { cls := .type "tuple", data := .seq #[.int i tk, u] } := (sb.2 _ (Nat.ne_of_gt hel)).trans hT
    have new : ObjOk X.prog X.w (upd H s.heap.objs.size (.tup [.int (i : Nat), y])) h'' s.heap.objs.size (.tup [.int (i : Nat), y]) :=
      ⟨by show (2 : Nat) ≤ sizeLine; decide, [.int i tk, u], .cons ⟨_, rfl⟩ (.cons ru .nil), ⟨_, T2, rfl, _, rfl⟩⟩
    have far : ∀ b o, b ≠ e → b ≠ it → s.heap.get? b = some o → h''.get? b = some o := fun b o h1 h2 q => (sb.2 b h1).trans (hk b o h1 h2 q)
    have I1 := I.turnedNew (t' := tk + 1) (ch := [e, it]) (fun b ob hb q => far b ob (fun z => hb (by simp [z])) (fun z => hb (by simp [z])) q) hf (Nat.le_refl _) new
    refine ⟨.ref s.heap.objs.size, _, I1, rfl, ⟨_, y, rfl, I.hok.fresh (Nat.le_refl _), rfl, hy⟩, ⟨⟨u, ?_⟩, hst.1.at fun o q => (sb.2 it (Ne.symm hne)).trans q, hne, hlt⟩, fun b hb => ?_⟩
    · rw [show ((i + 1 : Nat) : Int) = (i : Int) + 1 by omega]; exact he'
    · have hb' : b < s.heap.objs.size := by
        rcases List.mem_cons.mp hb with rfl | hb
        · exact hel
        · obtain rfl := List.mem_singleton.mp hb
          exact hil
      rw [upd_ne (Nat.ne_of_lt hb')]
      exact (hf b hb).1
  done := by
    intro X hP hw hK hc i pins s σ H E I hf st hg
    cases hP; cases hw; cases hK
    obtain ⟨⟨old, he⟩, hit, hne, hin⟩ := st
    obtain ⟨hq, hl⟩ := hg
    obtain ⟨its, rv, p, hz⟩ := I.tuple hq
    have pt : s.heap.IsTuple t its.toArray := p
    have ti : t ≠ it := by
      obtain ⟨o, ho, oc, _⟩ := hit
      exact (apartT pt ho (by rw [oc]; intro z; simp at z)).symm
    obtain ⟨f0, f1, f2, f3, f4, f5⟩ := hf it (by simp)
    have hr := rv.length
    have ei : i = its.toArray.size := by simp; omega
    have hit' : s.heap.IsTupleIter it t its.toArray.size := ei ▸ hit
    exact wpAny_pyNext_enum_endD (Draws.tuple (A := X.A.in1) (show X.A.in1.handled = none from I.ok.hd hc) it t ti its.toArray) he ⟨hit', pt⟩ fun h' eb => ⟨rfl, I.turned (t' := s.toks) (fun b o hb q => eb b o hb q) f0 f1 f3 f4 f5⟩
  self := fun A i s Q E st h => by
    obtain ⟨⟨_, he⟩, _⟩ := st
    exact wpAny_pyIter_enum he h
/-- a list or a tuple -/
def iEnumA (K : PySem.W.Frag) (ta : TA) : TI := fun σ H R => ta σ H fun vs H1 => ∃ a ys, vs = [.ref a] ∧ ((SqL K H1 a ys ∧ R (Ite K a) H1) ∨ (SqT K H1 a ys ∧ R (IteT K a ys) H1))
theorem pi_enumA {X : Cx} {e : Expr} {ta : TA} {p pos tpos : Pos} {elts : List Expr} {kk : Nat} (hg : Gl X "enumerate") (hm : X.mg "enumerate" = none) (ha : PA X [e] ta) (hs : starEach [e] X.env = [(false, eval e X.env)] := by rfl) :
    PI X (.Tuple elts kk tpos) (.Call (.Name "enumerate" p) [e] [] pos) (iEnumA X.K ta) := by
  refine ⟨fun pins s σ H R I h => ?_⟩
  refine Call_ (ld_blt I hg hm boot_enumerate (PyProof.Rows.callWith_type1 (thn (ha.run pos pins s σ H _ I h) fun us s1 ⟨vs, H1, I1, r1, q1⟩ => ?_) hs rfl))
  obtain ⟨a, ys, rfl, q1⟩ := q1
  have fresh : ∀ b ∈ [s1.heap.objs.size + 1, s1.heap.objs.size], FpOk X pins H1 b := fun b hb => by
    have hle : s1.heap.objs.size ≤ b := by
      simp only [List.mem_cons, List.not_mem_nil, or_false] at hb
      omega
    exact I1.fpOk hle (I1.hok.fresh hle)
  cases r1 with
  | cons r rr =>
    cases rr
    cases r
    rcases q1 with ⟨hq, q⟩ | ⟨hq, q⟩
    · obtain ⟨its, rv, p', hz⟩ := I1.list hq
      refine call_enumerate_list p'.isList fun h' he hit hsz hk => wpAny_pyIter_enum he ?_
      have J := I1.kept (t' := s1.toks) hk
      exact ⟨s1.heap.objs.size + 1, [s1.heap.objs.size + 1, s1.heap.objs.size], _, _, H1, rfl, J, turn_enum a (s1.heap.objs.size + 1) s1.heap.objs.size, ⟨⟨.none, he⟩, hit, Nat.succ_ne_self _⟩, fresh, q⟩
    · obtain ⟨its, rv, p', hz⟩ := I1.tuple hq
      have pt : s1.heap.IsTuple a its.toArray := p'
      obtain ⟨o, ho, hc, n, hd⟩ := pt
      obtain ⟨oc, od, dt, osl⟩ := o
      cases hc; cases hd
      refine call_enumT ho fun h' he hit hsz hk => wpAny_pyIter_enum he ?_
      have J := I1.kept (t' := s1.toks) hk
      exact ⟨s1.heap.objs.size + 1, [s1.heap.objs.size + 1, s1.heap.objs.size], _, _, H1, rfl, J, turn_enumT a (s1.heap.objs.size + 1) s1.heap.objs.size ys, ⟨⟨.none, he⟩, hit, Nat.succ_ne_self _, Nat.zero_le _⟩, fresh, q⟩
section
variable {T : Tb} {X : Cx} {P : Nat → Option V} {W : WX} {K : PySem.W.Frag} {F F' F1 H H' H1 : Hp} {g g1 : Nat → List Addr} {env env' : DEnv} {σ : L2.St}
theorem iter_enumT {a : Addr} {vs : List V} {ds : List D} (h : SqT K F a vs) (r : Reps T K F ds vs) : IterD T K F (IteT K a vs) (enumD ds) := by
  have hl := r.length
  have hz : (enumD ds).length = ds.length := by simp [enumD]
  refine ⟨fun i H hi s => ⟨same_sqT s h, by omega⟩, fun H s => ⟨same_sqT s h, by omega⟩, fun i H x H' hi s y F2 s1 s2 => ?_⟩
  obtain ⟨T0, u, rfl, hn, rfl, y⟩ := y
  obtain ⟨d, h1, h2⟩ := r.getV y
  refine ⟨.tup [.int (i : Int), d], upd F2 T0 _, ?_, .one hn, rep_pair s2 hn rep_int (h2.mono s1 _ _)⟩
  unfold enumD
  rw [List.getElem?_map, List.getElem?_zipIdx, h1]
  simp
def iEnumAD (fa : AM) : IM := bIA fa fun ds => liftI (match ds with
  | [.lst xs] => some (enumD xs)
  | [.tup xs] => some (enumD xs)
  | _ => none)
variable {tg e e2 : Expr} {fe : EM} {fa : AM} {p pos : Pos}
theorem di_enumA {elts : List Expr} {kk : Nat} {tpos : Pos} (hg : Gl X "enumerate") (hm : X.mg "enumerate" = none) (ha : DA T X P W [e] fa) (hs : starEach [e] X.env = [(false, eval e X.env)]) : DI T X P W (.Tuple elts kk tpos) (.Call (.Name "enumerate" p) [e] [] pos) (iEnumAD fa) := by
  obtain ⟨t, pa, sa⟩ := ha.ex
  refine ⟨_, pi_enumA hg hm pa hs, fun env o env' h F g σ H R A post => ?_⟩
  refine soundIA_bind sa h A post.exx fun ds e1 h1 vs F1 g1 H1 G1 A1 R1 => ?_
  obtain ⟨xs, hx, rfl, rfl⟩ := liftI_eq h1
  split at hx
  · simp only [Option.some.injEq] at hx
    subst hx
    obtain ⟨v, rfl, r⟩ := reps1 (ds := []) R1
    simp only [Rep] at r
    obtain ⟨a, vs, rfl, h2, h3⟩ := r
    exact ⟨a, vs, rfl, .inl ⟨SqL.of (A1.sub _ _ h2), post _ F1 g1 H1 G1 A1 (iter_enum h2 h3)⟩⟩
  · simp only [Option.some.injEq] at hx
    subst hx
    obtain ⟨v, rfl, r⟩ := reps1 (ds := []) R1
    simp only [Rep] at r
    obtain ⟨a, vs, rfl, h2, h3⟩ := r
    exact ⟨a, vs, rfl, .inr ⟨same_sqT A1.sub h2.sq, post _ F1 g1 H1 G1 A1 (iter_enumT h2.sq h3)⟩⟩
  · cases hx
end
end DS
namespace DS
open PySem PySem.Spec L2
theorem insB_ok {K : PySem.W.Frag} {x : Str} (h : insB K x = true) : InsOk K (He.ga K x) := by
  unfold insB at h
  simp only [Bool.and_eq_true, decide_eq_true_eq] at h
  exact ⟨He.cls_ok h.1, h.2.1, h.2.2.1, h.2.2.2.1, h.2.2.2.2⟩
theorem kitB_ok {K : PySem.W.Frag} {v u : Value} {b : Bool} (h : kitB K v u b = true) : PySem.W.kitOne K v u = some b := of_decide_eq_true h
theorem recB_ok {r : Option (List Value)} {g : Addr} (h : recB r g = true) : ∃ rest, r = some (.ref g :: rest) := by
  unfold recB at h
  split at h
  · obtain rfl := of_decide_eq_true h
    exact ⟨_, rfl⟩
  · cases h
theorem propB_ok {K : PySem.W.Frag} {x m : Str} (h : propB K x m = true) : PropOf K (He.ga K x) m (prA K x m) (prG K x m) := by
  unfold propB at h
  simp only [Bool.and_eq_true, decide_eq_true_eq] at h
  exact ⟨h.1, h.2.1, h.2.2.1, recB_ok h.2.2.2⟩
/-! ### methods, properties, makers: where they stand; their promises -/
section
variable {T : Tb} {P : Program} {w : World} {K : PySem.W.Frag} {mg : Str → Option Value} {base : Heap} {k : Nat} {cnm mnm qn : Str} {st : Stmt} {ps N : List Str} {sm : SM}
structure Md (K : PySem.W.Frag) (cnm mnm qn : Str) (st : Stmt) (ps : List Str) : Prop where
  cl : Cls K (He.ga K cnm)
  me : Meth K (He.ga K cnm) mnm (He.ma K (He.ga K cnm) mnm)
  ex : ∃ fd, FunD K mnm qn (defArgs st) (defBody st) (defScope st) [] [] (He.ma K (He.ga K cnm) mnm) fd ∧ Binds K fd ps []
structure MF (P : Program) (w : World) (K : PySem.W.Frag) (mg : Str → Option Value) (base : Heap) (k : Nat) (cnm mnm : Str) (ps : List Str) (sp : Sp) : Prop where
  cl : Cls K (He.ga K cnm)
  me : Meth K (He.ga K cnm) mnm (He.ma K (He.ga K cnm) mnm)
  ex : ∃ fd, FnOk P w K mg base (L2.CX P w) k (He.ma K (He.ga K cnm) mnm) fd ps sp ∧ Binds K fd ps []
theorem MF.at {X : Cx} {sp : Sp} (h : MF X.prog X.w X.K X.mg X.base k cnm mnm ps sp) : MFn X k cnm mnm ps sp := ⟨h.cl, h.me, h.ex⟩
theorem Md.fn (F : Md K cnm mnm qn st ps) (S : FnScope N ps (defScope st)) (hb : ∀ (f : Addr) (cdv : Value) (A : Around) (outer : List Env) (s : Shared) (H : Hp) (E : XK) (PP : Nat → Option V), Room k (A.deeper (PyProof.Rows.envOfC qn (defScope st) s.heap.objs.size f cdv)) →
      DSs T (cxOf (L2.CX P w) P w K mg base N qn (defScope st) f cdv A outer s H E) PP (fun cls d _ H => E cls d H) (defBody st) sm) :
    MF P w K mg base (k + 1) cnm mnm ps (spG T K ps.length (runD N.length sm)) := by
  obtain ⟨fd, FD, b⟩ := F.ex
  exact ⟨F.cl, F.me, fd, fn_ok FD S fun cdv A outer s H E PP hr => hb _ cdv A outer s H E PP hr, b⟩
structure Pd (K : PySem.W.Frag) (cnm mnm qn : Str) (st : Stmt) (ps : List Str) : Prop where
  cl : Cls K (He.ga K cnm)
  pr : PropOf K (He.ga K cnm) mnm (prA K cnm mnm) (prG K cnm mnm)
  ex : ∃ fd, FunD K mnm qn (defArgs st) (defBody st) (defScope st) [] [] (prG K cnm mnm) fd ∧ Binds K fd ps []
structure PF (P : Program) (w : World) (K : PySem.W.Frag) (mg : Str → Option Value) (base : Heap) (k : Nat) (cnm mnm : Str) (ps : List Str) (sp : Sp) : Prop where
  cl : Cls K (He.ga K cnm)
  ex : ∃ p g fd, PropOf K (He.ga K cnm) mnm p g ∧ FnOk P w K mg base (L2.CX P w) k g fd ps sp ∧ Binds K fd ps []
theorem PF.at {X : Cx} {sp : Sp} (h : PF X.prog X.w X.K X.mg X.base k cnm mnm ps sp) : PFn X k cnm mnm ps sp := ⟨h.cl, h.ex⟩
theorem Pd.fn (F : Pd K cnm mnm qn st ps) (S : FnScope N ps (defScope st)) (hb : ∀ (f : Addr) (cdv : Value) (A : Around) (outer : List Env) (s : Shared) (H : Hp) (E : XK) (PP : Nat → Option V), Room k (A.deeper (PyProof.Rows.envOfC qn (defScope st) s.heap.objs.size f cdv)) →
      DSs T (cxOf (L2.CX P w) P w K mg base N qn (defScope st) f cdv A outer s H E) PP (fun cls d _ H => E cls d H) (defBody st) sm) :
    PF P w K mg base (k + 1) cnm mnm ps (spG T K ps.length (runD N.length sm)) := by
  obtain ⟨fd, FD, b⟩ := F.ex
  exact ⟨F.cl, _, _, fd, F.pr, fn_ok FD S fun cdv A outer s H E PP hr => hb _ cdv A outer s H E PP hr, b⟩
/-- a maker: its class's name in the module -/
structure Id (K : PySem.W.Frag) (mg : Str → Option Value) (cnm qn : Str) (st : Stmt) (kws : List (Str × V)) (dvs : List V) : Prop where
  gl : mg cnm = some (.ref (He.ga K cnm))
  mkr : Mk K (He.ga K cnm) (He.ma K (He.ga K cnm) "__init__")
  ex : ∃ fd, FunD K "__init__" qn (defArgs st) (defBody st) (defScope st) dvs kws (He.ma K (He.ga K cnm) "__init__") fd
end
/-! ### isinstance of an own class -/
theorem isi_o {T : Tb} {K : PySem.W.Frag} {x : Str} (l : List Nat) (hb : ∀ b : BT, PySem.W.kitOne K (.type b.nm) (.ref (He.ga K x)) = some false) (h : ∀ (c : Nat) m, c ∈ T.hs → T.cn[c]? = some m → PySem.W.kitOne K (.ref (He.ga K m)) (.ref (He.ga K x)) = some (l.contains c)) : IsiOk T K (.ref (He.ga K x)) (tabO l) := by
  intro k t e
  cases k with
  | b s =>
    simp only [KT.v, Option.some.injEq] at e
    subst e
    exact hb s
  | o c =>
    simp only [KT.v] at e
    split at e
    · rename_i hh
      rw [Option.map_eq_some_iff] at e
      obtain ⟨m, hm, rfl⟩ := e
      exact h c m hh hm
    · cases e
theorem kitBs_ok {K : PySem.W.Frag} {x : Str} (h : kitBs K x = true) (b : BT) : PySem.W.kitOne K (.type b.nm) (.ref (He.ga K x)) = some false := by
  have h2 := List.all_eq_true.mp h b (by cases b <;> decide)
  exact kitB_ok h2
theorem kitCs_ok {K : PySem.W.Frag} {cn : List Str} {hs : List Nat} {x : Str} {l : List Nat} (h : kitCs K cn hs x l = true) (c : Nat) (m : Str) (hh : c ∈ hs) (e : cn[c]? = some m) : PySem.W.kitOne K (.ref (He.ga K m)) (.ref (He.ga K x)) = some (l.contains c) := by
  have h2 := List.all_eq_true.mp h c hh
  rw [e] at h2
  exact kitB_ok h2
theorem kitTs_ok {K : PySem.W.Frag} {cn : List Str} {hs : List Nat} {n : String} (h : kitTs K cn hs n = true) (c : Nat) (m : Str) (hh : c ∈ hs) (e : cn[c]? = some m) : PySem.W.kitOne K (.ref (He.ga K m)) (.type n) = some false := by
  have h2 := List.all_eq_true.mp h c hh
  rw [e] at h2
  exact kitB_ok h2
theorem cpe_o {T : Tb} {X : Cx} {x : Str} {pos : Pos} (l : List Nat) (hg : Gl X x) (hm : X.mg x = some (.ref (He.ga X.K x))) (hb : kitBs X.K x = true) (hc : kitCs X.K T.cn T.hs x l = true) (hn : x ≠ "__name__" := by decide +kernel) (hd : (x == ("__debug__" : Str)) = false := by decide +kernel) : CPe T X (.Name x pos) (tabO l) := by
  refine ⟨.ref (He.ga X.K x), .ref (He.ga X.K x), ?_, ?_, isi_o l (kitBs_ok hb) (kitCs_ok hc)⟩
  · exact pe_glob hg hm rfl hd
  · exact .own _
end DS
namespace DS
open PySem PySem.Spec L2
/-! ### one of two readings -/
def altE (f h : EM) : EM := fun env => match f env with
  | some r => some r
  | none => h env
theorem px_repsA {T : Tb} {K : PySem.W.Frag} {F : Hp} (ix : List Nat) {md : List D} {mv : List V} (h0 : ∀ F, Reps T K F md mv) {zs : List D} {ws : List V} (h : Reps T K F zs ws) : Reps T K F (pxD ix (zs ++ md)) (pxV ix (ws ++ mv)) := px_reps ix (h.append (h0 F))
/-! ### all classes and fields by number -/
def FNL : List Str := (("own_tracks" : PySem.Str) :: ("own_shivers" : PySem.Str) :: ("own_worn" : PySem.Str) :: ("by_cell" : PySem.Str) :: ("own_many" : PySem.Str) :: ("known" : PySem.Str) :: ("own_default" : PySem.Str) :: ("own_wheel" : PySem.Str) :: ("own_table" : PySem.Str) :: ("own_pace" : PySem.Str) :: ("own_rig" : PySem.Str) :: ("order" : PySem.Str) :: ("ways" : PySem.Str) :: ("fans" : PySem.Str) :: ("own_side" : PySem.Str) :: ("own_rows" : PySem.Str) :: ("own_first" : PySem.Str) :: ("own_motion" : PySem.Str) :: ("own_way" : PySem.Str) :: ("own_ring" : PySem.Str) :: ("own_within" : PySem.Str) :: ("own_other" : PySem.Str) :: ("now" : PySem.Str) :: ("past" : PySem.Str) :: ("ahead" : PySem.Str) :: ("working" : PySem.Str) :: ("rigs" : PySem.Str) :: ("store" : PySem.Str) :: ("total" : PySem.Str) :: ("top" : PySem.Str) :: ("own_shelf" : PySem.Str) :: ("lines" : PySem.Str) :: ("code" : PySem.Str) :: ("given" : PySem.Str) :: ("at" : PySem.Str) :: ("line" : PySem.Str) :: ("name" : PySem.Str) :: ("limit" : PySem.Str) :: ("most" : PySem.Str) :: [])
theorem fnl_nd : FNL.Nodup := by decide +kernel
/-! ### fields of several classes -/
theorem fo_nil {T : Tb} {K : PySem.W.Frag} {f : Str} : ∀ c ∈ ([] : List Nat), FOk T K c f := fun c h => by cases h
theorem fo_cons {T : Tb} {K : PySem.W.Frag} {f : Str} {c : Nat} {l : List Nat} (h : FOk T K c f) (h2 : ∀ c ∈ l, FOk T K c f) : ∀ d ∈ c :: l, FOk T K d f := fun d hd => by
  rcases List.mem_cons.mp hd with rfl | hd
  · exact h
  · exact h2 d hd
theorem fo_of {T : Tb} {K : PySem.W.Frag} {f : Str} {c : Nat} {n : Str} (hn : T.cn[c]? = some n) (h1 : Cls K (He.ga K n)) (h2 : NoAttr K (He.ga K n) f) : FOk T K c f := fun m hm => by
  rw [hn] at hm
  cases hm
  exact ⟨h1, h2⟩
/-- a statement that raises where it is never reached -/
def noS : SM := fun _ => none
theorem ds_no {T : Tb} {X : Cx} {P : Nat → Option V} {W : WX} {s : Stmt} : DS1 T X P W s noS := ds_never
end DS
namespace DS
open PySem PySem.Spec L2
/-! ### a, b, .. = x, y, .. where some are owned -/
inductive Px where
  | sh (d : D) | ow (d : D)
inductive RX where
  | ok (as : List Px) | ex (c : Nat) (fs : List (Nat × D))
abbrev XM := DEnv → Option (RX × DEnv)
def xNil : XM := fun env => some (.ok [], env)
def xMap (f : List Px → List Px) (fr : XM) : XM := fun env => match fr env with
  | some (.ok x, e) => some (.ok (f x), e)
  | some (.ex c fs, e) => some (.ex c fs, e)
  | none => none
def bXE (fe : EM) (k : D → XM) : XM := fun env => match fe env with
  | some (.ok x, e) => k x e
  | some (.ex c fs, e) => some (.ex c fs, e)
  | none => none
def xCons (fe : EM) (fr : XM) : XM := bXE fe fun d => xMap (fun r => .sh d :: r) fr
def xOwn (fe : EM) (fr : XM) : XM := bXE fe fun d => xMap (fun r => .ow d :: r) fr
def putXs : List Nat → List Px → DEnv → Option DEnv
  | [], [], env => some env
  | i :: is, .sh d :: r, env => match putS i d env with
    | some e => putXs is r e
    | none => none
  | i :: is, .ow d :: r, env => match putS i (.own d) env with
    | some e => putXs is r e
    | none => none
  | _, _, _ => none
def parX (is : List Nat) (fx : XM) : SM := fun env => match fx env with
  | some (.ok as, e) => toS (putXs is as e)
  | some (.ex c fs, e) => some (.ex c fs, e)
  | none => none
section
variable (T : Tb) (K : PySem.W.Frag) (P : Nat → Option V) (W : WX)
def PxO (F H : Hp) : Px → V → List Addr → Prop
  | .sh d, v, fp => fp = [] ∧ Rep T K F d v
  | .ow d, v, fp => RepO T K F H (.own d) v fp
def PxOs (F H : Hp) : List Px → List V → List (List Addr) → Prop
  | [], vs, fps => vs = [] ∧ fps = []
  | a :: as, vs, fps => ∃ v r fp fr, vs = v :: r ∧ fps = fp :: fr ∧ PxO T K F H a v fp ∧ PxOs F H as r fr ∧ ∀ x ∈ fp, ∀ q ∈ fr, x ∉ q
def PostX (env' : DEnv) (F : Hp) (g : Nat → List Addr) (σ : L2.St) (H : Hp) (Q : List V → Hp → Prop) : RX → Prop
  | .ok as => ∀ vs fps F' g' H', Grow F g H F' g' H' → Abs T K P F' g' env' σ H' → PxOs T K F' H' as vs fps → (∀ fp ∈ fps, ∀ i, ∀ x ∈ fp, x ∉ g' i) → (∀ fp ∈ fps, ∀ x ∈ fp, (∃ j, x ∈ g j) ∨ H x = none) → Q vs H'
  | .ex c fs => ExE T K P W env' F g σ H c fs
def SoundX (f : XM) (t : TA) : Prop := ∀ env r env', f env = some (r, env') → ∀ F g σ H Q, Abs T K P F g env σ H → PostX T K P W env' F g σ H Q r → t σ H Q
end
structure DX (T : Tb) (X : Cx) (P : Nat → Option V) (W : WX) (es : List Expr) (f : XM) : Prop where
  ex : ∃ t, PA X es t ∧ SoundX T X.K P W f t
section
variable {T : Tb} {X : Cx} {P : Nat → Option V} {W : WX} {K : PySem.W.Frag} {F F' F1 F2 H H' H1 H2 : Hp} {g g1 g2 : Nat → List Addr} {env env' : DEnv} {σ σ' : L2.St}
theorem dx_nil : DX T X P W [] xNil := by
  refine ⟨_, pa_nil, fun env r env' h F g σ H Q A post => ?_⟩
  unfold xNil at h
  simp only [Option.some.injEq, Prod.mk.injEq] at h
  obtain ⟨rfl, rfl⟩ := h
  exact post [] [] F g H (Grow.refl _ _ _) A ⟨rfl, rfl⟩ (fun _ h => by cases h) fun _ h => by cases h
theorem xMap_eq {f : List Px → List Px} {fr : XM} {r : RX} (h : xMap f fr env = some (r, env')) : (∃ x, fr env = some (.ok x, env') ∧ r = .ok (f x)) ∨ ∃ c fs, fr env = some (.ex c fs, env') ∧ r = .ex c fs := by
  unfold xMap at h
  split at h
  · rename_i x e q
    simp only [Option.some.injEq, Prod.mk.injEq] at h
    obtain ⟨rfl, rfl⟩ := h
    exact .inl ⟨x, q, rfl⟩
  · rename_i c fs e q
    simp only [Option.some.injEq, Prod.mk.injEq] at h
    obtain ⟨rfl, rfl⟩ := h
    exact .inr ⟨c, fs, q, rfl⟩
  · cases h
theorem bXE_eq {fe : EM} {k : D → XM} {r : RX} (h : bXE fe k env = some (r, env')) : (∃ x e, fe env = some (.ok x, e) ∧ k x e = some (r, env')) ∨ ∃ c fs, fe env = some (.ex c fs, env') ∧ r = .ex c fs := by
  unfold bXE at h
  split at h
  · rename_i x e q
    exact .inl ⟨x, e, q, h⟩
  · rename_i c fs e q
    simp only [Option.some.injEq, Prod.mk.injEq] at h
    obtain ⟨rfl, rfl⟩ := h
    exact .inr ⟨c, fs, q, rfl⟩
  · cases h
variable {e : Expr} {es : List Expr} {fe : EM} {fr : XM}
theorem dx_cons (he : DE T X P W e fe) (hr : DX T X P W es fr) (hs : starEach (e :: es) X.env = (false, eval e X.env) :: starEach es X.env) : DX T X P W (e :: es) (xCons fe fr) := by
  obtain ⟨te, pe, se⟩ := he.ex
  obtain ⟨tr, pr, sr⟩ := hr.ex
  refine ⟨_, pa_cons pe pr hs, fun env r env' h F g σ H Q A post => ?_⟩
  rcases bXE_eq h with ⟨x, e1, q1, h⟩ | ⟨c, fs, q1, rfl⟩
  · refine se _ _ _ q1 F g σ H _ A fun v F1 g1 H1 G1 A1 R1 => ?_
    rcases xMap_eq h with ⟨as, q2, rfl⟩ | ⟨c, fs, q2, rfl⟩
    · refine sr _ _ _ q2 F1 g1 σ H1 _ A1 fun vs fps F2 g2 H2 G2 A2 R2 n2 m2 => ?_
      refine post (v :: vs) ([] :: fps) F2 g2 H2 (G1.trans G2) A2 ⟨v, vs, [], fps, rfl, rfl, ⟨rfl, R1.mono G2.sub _ _⟩, R2, fun _ h => by cases h⟩ (fun fp hfp => ?_) fun fp hfp => ?_
      · rcases List.mem_cons.mp hfp with rfl | hfp
        · intro i x hx; cases hx
        · exact n2 fp hfp
      · rcases List.mem_cons.mp hfp with rfl | hfp
        · intro x hx; cases hx
        · exact fun x hx => G1.back (m2 fp hfp x hx)
    · have post : ExE T X.K P W env' F g σ H c fs := post
      exact sr _ _ _ q2 F1 g1 σ H1 _ A1 (post.grow G1)
  · exact se _ _ _ q1 F g σ H _ A post
def setAll : List Nat → List V → L2.St → L2.St
  | i :: is, v :: vs, σ => setAll is vs (σ.set i (some v))
  | _, _, σ => σ
theorem putXs_abs : ∀ {as : List Px} {is : List Nat} {env env' : DEnv} {σ : L2.St} {g : Nat → List Addr} {vs : List V} {fps : List (List Addr)}, Abs T K P F g env σ H → PxOs T K F H as vs fps → (∀ fp ∈ fps, ∀ i, ∀ x ∈ fp, x ∉ g i) → putXs is as env = some env' →
    ∃ g', Abs T K P F g' env' (setAll is vs σ) H ∧ (∀ i a, a ∈ g' i → (∃ j, a ∈ g j) ∨ ∃ fp ∈ fps, a ∈ fp) ∧ as.length = is.length
  | [], is, env, env', σ, g, vs, fps, A, R, n, h => by
    obtain ⟨rfl, rfl⟩ := R
    cases is with
    | nil =>
      simp only [putXs, Option.some.injEq] at h
      subst h
      exact ⟨g, A, fun i a ha => .inl ⟨i, ha⟩, rfl⟩
    | cons i is => simp [putXs] at h
  | .sh d :: as, is, env, env', σ, g, vs, fps, A, R, n, h => by
    obtain ⟨v, r, fp, fr, rfl, rfl, ⟨rfl, h1⟩, h2, h3⟩ := R
    cases is with
    | nil => simp [putXs] at h
    | cons i is =>
      simp only [putXs] at h
      split at h
      · rename_i e q
        obtain ⟨hi, rfl⟩ := putS_eq q
        have A2 := A.put hi h1
        obtain ⟨g', A3, G3, hl⟩ := putXs_abs A2 h2 (fun fp hfp j x hx hj => by
          split at hj
          · cases hj
          · exact n fp (by simp [hfp]) j x hx hj) h
        refine ⟨g', A3, fun j a ha => ?_, by simp [hl]⟩
        rcases G3 j a ha with ⟨k, hk⟩ | ⟨fp, hfp, hx⟩
        · split at hk
          · cases hk
          · exact .inl ⟨k, hk⟩
        · exact .inr ⟨fp, by simp [hfp], hx⟩
      · cases h
  | .ow d :: as, is, env, env', σ, g, vs, fps, A, R, n, h => by
    obtain ⟨v, r, fp, fr, rfl, rfl, h1, h2, h3⟩ := R
    cases is with
    | nil => simp [putXs] at h
    | cons i is =>
      simp only [putXs] at h
      split at h
      · rename_i e q
        obtain ⟨hi, rfl⟩ := putS_eq q
        have A2 := A.putO hi h1 (n fp (by simp))
        obtain ⟨g', A3, G3, hl⟩ := putXs_abs A2 h2 (fun fq hfq j x hx hj => by
          split at hj
          · exact h3 x hj fq hfq hx
          · exact n fq (by simp [hfq]) j x hx hj) h
        refine ⟨g', A3, fun j a ha => ?_, by simp [hl]⟩
        rcases G3 j a ha with ⟨k, hk⟩ | ⟨fq, hfq, hx⟩
        · split at hk
          · exact .inr ⟨fp, by simp, hk⟩
          · exact .inl ⟨k, hk⟩
        · exact .inr ⟨fq, by simp [hfq], hx⟩
      · cases h
theorem pxOs_len : ∀ {as : List Px} {vs : List V} {fps : List (List Addr)}, PxOs T K F H as vs fps → vs.length = as.length
  | [], vs, fps, h => by obtain ⟨rfl, _⟩ := h; rfl
  | a :: as, vs, fps, h => by
    obtain ⟨v, r, fp, fr, rfl, rfl, h1, h2, h3⟩ := h
    simp [pxOs_len h2]
theorem grow_to {F1 H1 : Hp} {g1 g2 : Nat → List Addr} {fps : List (List Addr)} (G : Grow F g H F1 g1 H1) (h : ∀ i a, a ∈ g2 i → (∃ j, a ∈ g1 j) ∨ ∃ fp ∈ fps, a ∈ fp) (m : ∀ fp ∈ fps, ∀ x ∈ fp, (∃ j, x ∈ g j) ∨ H x = none) : Grow F g H F1 g2 H1 :=
  ⟨G.sub, G.keep, G.fr, fun i a ha => by
    rcases h i a ha with ⟨j, hj⟩ | ⟨fp, hfp, hx⟩
    · exact G.new j a hj
    · exact m fp hfp a hx⟩
/-- how parX goes on -/
theorem sound_parX {is : List Nat} {fx : XM} {ta : TA} (sa : SoundX T K P W fx ta) {o : Out} {Z : Ends} {Q' : List V → Hp → Prop} (h : parX is fx env = some (o, env')) (A : Abs T K P F g env σ H) (post : PostS T K P W env' F g H Z o)
    (kk : ∀ vs F1 g1 H1, vs.length = is.length → Grow F g H F1 g1 H1 → Abs T K P F1 g1 env' (setAll is vs σ) H1 → (∀ p u, H1 p = none → Abs T K P F1 g1 env' (setAll is vs σ) (upd H1 p u) ∧ Grow F g H F1 g1 (upd H1 p u)) → o = .nx → Q' vs H1) : ta σ H Q' := by
  unfold parX at h
  cases e1 : fx env with
  | none => rw [e1] at h; cases h
  | some q =>
    obtain ⟨ra, e2⟩ := q
    rw [e1] at h
    refine sa env ra e2 e1 F g σ H _ A ?_
    cases ra with
    | ex c fs =>
      simp only [Option.some.injEq, Prod.mk.injEq] at h
      obtain ⟨rfl, rfl⟩ := h
      exact post σ
    | ok as =>
      intro vs fps F1 g1 H1 G1 A1 R1 n1 m1
      obtain ⟨ep, rfl⟩ := toS_eq h
      obtain ⟨g2, A2, G2, hl⟩ := putXs_abs A1 R1 n1 ep
      refine kk vs F1 g2 H1 (by rw [pxOs_len R1, hl]) (grow_to G1 G2 m1) A2 (fun p u hp => ?_) rfl
      exact ⟨A2.beside hp, (grow_to G1 G2 m1).trans (grow_side (Grow.refl _ _ _) hp)⟩
end
section
variable {T : Tb} {X : Cx} {P : Nat → Option V} {W : WX} {fx : XM} {a b c : Expr}
theorem ds_parX2 {i j : Nat} {x y : Str} {px py pt pos : Pos} {kt k2 pt2} (hc : X.calm = true) (hN : X.N.Nodup) (hi : X.N[i]? = some x) (hj : X.N[j]? = some y) (hij : i ≠ j)
    (hx : X.env.scope.names.lookup x = some .local) (hy : X.env.scope.names.lookup y = some .local) (ha : DX T X P W [a, b] fx)
    (hw : swappedStores [.Tuple [.Name x px, .Name y py] kt pt] (.Tuple [a, b] k2 pt2) X.env = pure (some [x, y])) (hs : swapsWithSole [.Tuple [.Name x px, .Name y py] kt pt] (.Tuple [a, b] k2 pt2) pos.line X.env = pure false) :
    DS1 T X P W (.Assign [.Tuple [.Name x px, .Name y py] kt pt] (.Tuple [a, b] k2 pt2) pos) (parX [i, j] fx) := by
  obtain ⟨ta, pa, sa⟩ := ha.ex
  refine ⟨_, ps_par hc hN hi hj hij hx hy pa hw hs, fun env o env' h F g σ H Z A post => ?_⟩
  refine sound_parX sa h A post fun vs F1 g1 H1 hl G1 A1 _ ho => ?_
  subst ho
  match vs, hl with
  | [u, v], _ => exact ⟨u, v, rfl, post F1 g1 _ H1 G1 A1⟩
/-- names as targets -/
structure DN (X : Cx) (es : List Expr) (is : List Nat) : Prop where
  ex : ∃ t, PGs X es t ∧ ∀ vs σ H Q, vs.length = is.length → Q (setAll is vs σ) H → t vs σ H Q
theorem dn_nil : DN X [] [] := by
  refine ⟨_, pgs_nil, fun vs σ H Q hl q => ?_⟩
  obtain rfl := List.eq_nil_of_length_eq_zero hl
  exact ⟨rfl, q⟩
theorem dn_cons {i : Nat} {x : Str} {pos : Pos} {es : List Expr} {is : List Nat} (hN : X.N.Nodup) (hi : X.N[i]? = some x) (hx : Loc X.env.scope x) (hf : X.fn x = true ∨ X.env.scope.names.lookup x = some .local) (h2 : DN X es is)
    (hs : (assignEach (.Name x pos :: es) X.env).map (·.2) = assign (.Name x pos) X.env :: (assignEach es X.env).map (·.2)) : DN X (.Name x pos :: es) (i :: is) := by
  obtain ⟨t, p, s⟩ := h2.ex
  refine ⟨_, pgs_cons (pg_name hN hi hx hf) p hs, fun vs σ H Q hl q => ?_⟩
  cases vs with
  | nil => cases hl
  | cons v vs => exact ⟨v, vs, rfl, s vs _ H Q (by simpa using hl) q⟩
theorem ds_parT {is : List Nat} {tgs es : List Expr} {kt k2 n : Nat} {pt pt2 pos : Pos} (hc : X.calm = true) (hg : DN X tgs is) (hn : is.length = n) (hn2 : n < 1000) (hst : (assignEach tgs X.env).findIdx? (·.1) = none) (hn3 : (assignEach tgs X.env).length = n) (ha : DX T X P W es fx)
    (hw : swappedStores [.Tuple tgs kt pt] (.Tuple es k2 pt2) X.env = pure none) (hs : swapsWithSole [.Tuple tgs kt pt] (.Tuple es k2 pt2) pos.line X.env = pure false) (h1 : (assignEach [.Tuple tgs kt pt] X.env).map (·.2) = [assign (.Tuple tgs kt pt) X.env]) :
    DS1 T X P W (.Assign [.Tuple tgs kt pt] (.Tuple es k2 pt2) pos) (parX is fx) := by
  obtain ⟨ta, pa, sa⟩ := ha.ex
  obtain ⟨tg, pg, sg⟩ := hg.ex
  refine ⟨_, ps_asg (pe_tup pa) (pg_tup hc pg hn3 hst) hs hw h1, fun env o env' h F g σ H Z A post => ?_⟩
  refine sound_parX sa h A post fun vs F1 g1 H1 hl G1 A1 up ho => ?_
  subst ho
  refine ⟨by rw [hl, hn, lim_eq]; omega, fun p hp => ?_⟩
  obtain ⟨A2, G2⟩ := up p (.tup vs) hp
  exact ⟨p, vs, rfl, SqT.of upd_same, by rw [hl, hn], sg vs σ _ _ hl (post F1 g1 _ _ G2 A2)⟩
end
end DS
/-! DS35: dicts whose keys are tuples of numbers and texts. -/
namespace DS
open PySem PySem.Spec L2
def keq1 : D → D → Bool
  | .int i, .int j => decide (i = j)
  | .str x, .str y => decide (x = y)
  | _, _ => false
def keqs : List D → List D → Bool
  | [], [] => true
  | a :: r, b :: s => keq1 a b && keqs r s
  | _, _ => false
def isk : D → Bool
  | .int _ => true
  | .str _ => true
  | _ => false
/-- a key: a tuple of two or more numbers and texts -/
def keyT : D → Option (List D)
  | .tup xs => if (decide (2 ≤ xs.length) && xs.all isk) = true then some xs else none
  | _ => none
def hitT (ks : List D) (p : D × D) : Bool := match p.1 with
  | .tup ys => keqs ys ks
  | _ => false
def getT (kvs : List (D × D)) (ks : List D) : Option D := (kvs.find? (hitT ks)).map (·.2)
def putT (kvs : List (D × D)) (ks : List D) (d : D) : List (D × D) :=
  if kvs.any (hitT ks) = true then kvs.map (fun p => if hitT ks p = true then (p.1, d) else p) else kvs ++ [(.tup ks, d)]
/-! ### an owned dict in a slot -/
def slDic (j : Nat) (env : DEnv) : Option (List (D × D)) := match env[j]? with
  | some (some (.own (.dic true kvs))) => some kvs
  | _ => none
def slPutD (j : Nat) (kvs : List (D × D)) (env : DEnv) : Option DEnv := match env[j]? with
  | some (some (.own (.dic true _))) => some (env.set j (some (.own (.dic true kvs))))
  | _ => none
section
variable {T : Tb} {X : Cx} {P : Nat → Option V} {W : WX} {K : PySem.W.Frag} {F F' F1 H H' H1 : Hp} {g g1 : Nat → List Addr} {env env' : DEnv} {σ : L2.St}
/-- k in d, of an owned dict -/
def dInS (j : Nat) (fi : EM) : EM := bE fi fun d env => match keyT d, slDic j env with
  | some ks, some kvs => some (.ok (.bl (getT kvs ks).isSome), env)
  | _, _ => none
/-- d[k] = v, of an owned dict -/
def dPutS (j : Nat) (fv fi : EM) : SM := bS fv fun d => fun env => match slDic j env with
  | none => none
  | some _ => bS fi (fun i env => match keyT i, slDic j env with
    | some ks, some kvs => if kvs.length < 16777216 then toS (slPutD j (putT kvs ks d) env) else none
    | _, _ => none) env
/-! ### a plain dict -/
def dicOf : D → Option (List (D × D))
  | .dic true kvs => some kvs
  | _ => none
/-- d.get(k, z) -/
def dGet2P (fo fi fz : EM) : EM := bE fo fun x => match dicOf x with
  | none => fun _ => none
  | some kvs => bE fi fun y => bE fz fun z => lift (match keyT y with
    | some ks => some ((getT kvs ks).getD z)
    | _ => none)
/-! ### *d.values() in a display -/
def aStarVals (fo : EM) (fr : AM) : AM := bAA fo fun x => match dicOf x with
  | none => fun _ => none
  | some kvs => mapA (fun ys => (kvs.map fun p => Ag.sh p.2) ++ ys) fr
end
end DS
/-! DS36: defs and methods with a star's parameter, called by position; makers without one. -/
namespace DS
open PySem PySem.Spec L2
section
variable {T : Tb} {X : Cx} {P : Nat → Option V} {W : WX} {K : PySem.W.Frag} {F F' F1 H H' H1 : Hp} {g g1 : Nat → List Addr} {env env' : DEnv} {σ : L2.St}
theorem sound_callG {n : Nat} {m : List D → Option (R × List D)} {ds : List D} {vs : List V} {d : D} {Q : VK} (em : m ds = some (.ok d, [])) (hn : ds.length = n) (hd : d.sh = true) (A : Abs T K P F g env σ H) (R0 : Reps T K F ds vs) (post : PostE T K P W env F g σ H Q (.ok d)) : spG T K n m vs H Q (fun _ _ _ => False) := by
  refine ⟨_, F, fun _ => [], .ok d, [], em, hn, A.sub, args_plain R0, fun u fp F' g' H' G s A' R' n' m' => ?_⟩
  rw [pinless R0] at A'
  have eg := args_g R0 A'
  subst eg
  obtain ⟨B, G'⟩ := plain_abs A G s
  exact post u F' g H' G' B ((repO_sh hd).mp R').2
/-- the promise of a def with n parameters and a star's -/
def spStarF (T : Tb) (K : PySem.W.Frag) (n : Nat) (m : List D → Option (R × List D)) : Sp := fun vs H Q E => ∃ ws rest, vs = ws ++ rest ∧ ws.length = n ∧ rest.length ≤ sizeLine ∧ ∀ p, H p = none → spG T K (n + 1) m (ws ++ [.ref p]) (upd H p (.tup rest)) Q E
def starM (n : Nat) (m : List D → Option (R × List D)) (ds : List D) : EM := fun env => if (decide (n ≤ ds.length) && decide (ds.length ≤ 16777216)) = true then (match m (ds.take n ++ [.tup (ds.drop n)]) with
  | some (.ok d, []) => if d.sh = true then some (.ok d, env) else none
  | _ => none) else none
end
/-! ### defs -/
structure Sd (K : PySem.W.Frag) (mg : Str → Option Value) (x : Str) (st : Stmt) : Prop where
  gl : mg x = some (.ref (He.ga K x))
  ex : ∃ fd, FunD K x x (defArgs st) (defBody st) (defScope st) [] [] (He.ga K x) fd
structure SF (P : Program) (w : World) (K : PySem.W.Frag) (mg : Str → Option Value) (base : Heap) (k : Nat) (x : Str) (sp : Sp) : Prop where
  gl : mg x = some (.ref (He.ga K x))
  kp : PySem.W.keepIn K (.ref (He.ga K x)) = true
  fn : FnR P w K mg base (L2.CX P w) k (He.ga K x) sp
section
variable {T : Tb} {P : Program} {w : World} {K : PySem.W.Frag} {mg : Str → Option Value} {base : Heap} {k : Nat} {f : Addr} {fd : FuncData} {x qual pv : Str} {params : Arguments} {body : List Stmt} {scope : Scope} {ps N : List Str} {sm : SM}
theorem starD (FD : FunD K x qual params body scope [] [] f fd) (S : FnScope N (ps ++ [pv]) scope)
    (hbi : ∀ (kV doc pm : Value) (an : Option Addr) (cdv ct : Value) (us rest : List Value), us.length = ps.length → bindArgs (PySem.W.fnOf x qual params body scope .none kV doc pm an cdv ct) ⟨us ++ rest, []⟩ = (newTuple rest >>= fun t => pure (ps.zip us ++ [(pv, t)])))
    (hb : ∀ (cdv : Value) (A : Around) (outer : List Env) (s : Shared) (H : Hp) (E : XK) (PP : Nat → Option V), Room k (A.deeper (PyProof.Rows.envOfC qual scope s.heap.objs.size f cdv)) →
      DSs T (cxOf (L2.CX P w) P w K mg base N qual scope f cdv A outer s H E) PP (fun cls d _ H => E cls d H) body sm) :
    FnR P w K mg base (L2.CX P w) (k + 1) f (spStarF T K ps.length (runD N.length sm)) := by
  obtain ⟨oc, od, dV, kV, doc, pm, an, cdv, ct, osl, rfl, lk, hcd, q1, q2⟩ := FD.ex
  rcases q1 with ⟨_, rfl⟩ | ⟨e, _⟩
  · have core := StX.fn_star (sp := spG T K (ps ++ [pv]).length (runD N.length sm)) (k := k) (N := N) lk hcd S (StX.cxUp (P := P) (w := w)) (fun us rest hl => hbi kV doc pm an cdv ct us rest hl)
      (P := P) (w := w) (mg := mg) (base := base) (fun A outer s H vs Q E hr hsp => body_ok S (fun PP => hb cdv A outer s H E PP hr) hsp)
    refine core.imp fun vs H Q E ⟨ws, rest, h1, h2, h3, h4⟩ => ⟨ws, rest, h1, h2, h3, ?_⟩
    have e : (ps ++ [pv]).length = ps.length + 1 := by simp
    rw [e]
    exact h4
  · exact absurd rfl e
theorem Sd.fn {st : Stmt} (F : Sd K mg x st) (S : FnScope N (ps ++ [pv]) (defScope st))
    (hbi : ∀ (kV doc pm : Value) (an : Option Addr) (cdv ct : Value) (us rest : List Value), us.length = ps.length → bindArgs (PySem.W.fnOf x x (defArgs st) (defBody st) (defScope st) .none kV doc pm an cdv ct) ⟨us ++ rest, []⟩ = (newTuple rest >>= fun t => pure (ps.zip us ++ [(pv, t)])))
    (hb : ∀ (f : Addr) (cdv : Value) (A : Around) (outer : List Env) (s : Shared) (H : Hp) (E : XK) (PP : Nat → Option V), Room k (A.deeper (PyProof.Rows.envOfC x (defScope st) s.heap.objs.size f cdv)) →
      DSs T (cxOf (L2.CX P w) P w K mg base N x (defScope st) f cdv A outer s H E) PP (fun cls d _ H => E cls d H) (defBody st) sm) :
    SF P w K mg base (k + 1) x (spStarF T K ps.length (runD N.length sm)) := by
  obtain ⟨fd, FD⟩ := F.ex
  exact ⟨F.gl, FD.kp, starD FD S hbi fun cdv A outer s H E PP hr => hb _ cdv A outer s H E PP hr⟩
end
section
variable {T : Tb} {X : Cx} {P : Nat → Option V} {W : WX} {k k' n c : Nat} {x : Str} {m : List D → Option (R × List D)} {p pos apos : Pos} {e o : Expr} {es : List Expr} {fa fo : AM} {cnm mnm : Str} {pl : Sem Bool}
def dCallStar (n : Nat) (m : List D → Option (R × List D)) (fa : AM) : EM := bL fa fun ds => starM n m ds
end
/-! ### methods (of plain objects) -/
structure MSd (K : PySem.W.Frag) (cnm mnm qn : Str) (st : Stmt) : Prop where
  cl : Cls K (He.ga K cnm)
  me : Meth K (He.ga K cnm) mnm (He.ma K (He.ga K cnm) mnm)
  ex : ∃ fd, FunD K mnm qn (defArgs st) (defBody st) (defScope st) [] [] (He.ma K (He.ga K cnm) mnm) fd
structure MSF (P : Program) (w : World) (K : PySem.W.Frag) (mg : Str → Option Value) (base : Heap) (k : Nat) (cnm mnm : Str) (sp : Sp) : Prop where
  cl : Cls K (He.ga K cnm)
  me : Meth K (He.ga K cnm) mnm (He.ma K (He.ga K cnm) mnm)
  fn : FnR P w K mg base (L2.CX P w) k (He.ma K (He.ga K cnm) mnm) sp
theorem MSd.fn {T : Tb} {P : Program} {w : World} {K : PySem.W.Frag} {mg : Str → Option Value} {base : Heap} {k : Nat} {cnm mnm qn pv : Str} {st : Stmt} {ps N : List Str} {sm : SM} (F : MSd K cnm mnm qn st) (S : FnScope N (ps ++ [pv]) (defScope st))
    (hbi : ∀ (kV doc pm : Value) (an : Option Addr) (cdv ct : Value) (us rest : List Value), us.length = ps.length → bindArgs (PySem.W.fnOf mnm qn (defArgs st) (defBody st) (defScope st) .none kV doc pm an cdv ct) ⟨us ++ rest, []⟩ = (newTuple rest >>= fun t => pure (ps.zip us ++ [(pv, t)])))
    (hb : ∀ (f : Addr) (cdv : Value) (A : Around) (outer : List Env) (s : Shared) (H : Hp) (E : XK) (PP : Nat → Option V), Room k (A.deeper (PyProof.Rows.envOfC qn (defScope st) s.heap.objs.size f cdv)) →
      DSs T (cxOf (L2.CX P w) P w K mg base N qn (defScope st) f cdv A outer s H E) PP (fun cls d _ H => E cls d H) (defBody st) sm) :
    MSF P w K mg base (k + 1) cnm mnm (spStarF T K ps.length (runD N.length sm)) := by
  obtain ⟨fd, FD⟩ := F.ex
  exact ⟨F.cl, F.me, starD FD S hbi fun cdv A outer s H E PP hr => hb _ cdv A outer s H E PP hr⟩
def dMethStar (c n : Nat) (m : List D → Option (R × List D)) (fe : EM) (fa : AM) : EM := bE fe fun x => onC c x (bL fa fun ds => starM n m (x :: ds))
/-! ### makers without a star's parameter -/
/-- a new object -/
def dMakeN (c nk n2 nv : Nat) (ix : List Nat) (m : List D → Option (R × List D)) (fa fk : AM) : EM := bL fa fun ds => bL fk fun zs => fun env => if (decide (ds.length + 1 = nv) && (decide (zs.length = nk) && decide ((pxD ix zs).length = n2))) = true then (match m (.pin (.ins c []) :: (ds ++ pxD ix zs)) with
  | some (.ok .non, [s]) => some (.ok s, env)
  | _ => none) else none
end DS
/-! DS37: clear; a fresh answer that is changed and thrown away; list(range(..)). -/
namespace DS
open PySem PySem.Spec L2
section
variable {T : Tb} {X : Cx} {P : Nat → Option V} {W : WX} {K : PySem.W.Frag} {F F' F1 H H' H1 : Hp} {g g1 : Nat → List Addr} {env env' : DEnv} {σ : L2.St}
/-- xs.clear(), of an owned list -/
def clrS (j : Nat) : SM := fun env => match slLst j env with
  | none => none
  | some _ => toS (slPut j [] env)
/-- an object beside all is written -/
theorem Abs.tmp (A : Abs T K P F g env σ H) {a : Addr} {o : HO} (fa : F a = none) (na : ∀ i, a ∉ g i) : Abs T K P F g env σ (upd H a o) := by
  refine ⟨fun b u e => by rw [upd_ne (ne_of_none e fa)]; exact A.sub _ _ e, A.len, fun i d e => ?_, A.dis, A.out⟩
  obtain ⟨v, h1, h2⟩ := A.at_ i d e
  exact ⟨v, h1, slotO_keep (Same.refl _) h2 (fun b hb u q => by rw [upd_ne (fun z => na i (by rw [← z]; exact hb))]; exact q) fun b hb => (A.inn i b hb).1⟩
theorem Grow.tmp (G : Grow F g H F1 g1 H1) {a : Addr} {o : HO} (n : (∃ j, a ∈ g j) ∨ H a = none) : Grow F g H F1 g1 (upd H1 a o) := by
  refine ⟨G.sub, fun b u nb e => ?_, G.fr, G.new⟩
  have : b ≠ a := fun z => by
    subst z
    rcases n with ⟨j, q⟩ | q
    · exact nb j q
    · rw [q] at e; cases e
  rw [upd_ne this]
  exact G.keep b u nb e
/-- .. .clear(), of a new list -/
def clrT (f : EM) : SM := fun env => match f env with
  | some (.ok (.lst _), e) => some (.nx, e)
  | _ => none
theorem ds_clrT {e : Expr} {f : EM} {ap cp pos : Pos} (he : DO T X P W e f) (hat : attributeBase e "clear" X.env (eval e X.env) = eval e X.env) (hl : (ap.endLine == cp.line) = true)
    (hs : swapsWith (.Call (.Attribute e "clear" ap) [] [] cp) none pos.line X.env = pure false) : DS1 T X P W (.Expr (.Call (.Attribute e "clear" ap) [] [] cp) pos) (clrT f) := by
  obtain ⟨te, pe, se⟩ := he.ex
  refine ⟨_, ps_expr (pe_bm0 PySem.F.plainAttrs_list PySem.F.slot_list_clear PySem.F.type_list_clear mt_clear pe hat hl) hs, fun env o env' h F g σ H Z A post => ?_⟩
  unfold clrT at h
  split at h
  · rename_i xs e1 ef
    simp only [Option.some.injEq, Prod.mk.injEq] at h
    obtain ⟨rfl, rfl⟩ := h
    refine se _ _ _ ef F g σ H _ A fun v fp F1 g1 H1 G1 A1 R1 n1 m1 => ?_
    simp only [RepO] at R1
    obtain ⟨a, vs, rfl, rfl, fa, ha, hr⟩ := R1
    refine ⟨.inl ⟨rfl, _, SqL.of ha⟩, a, vs, rfl, rfl, ha, ?_⟩
    exact post _ _ _ _ (G1.tmp (m1 a (by simp))) (A1.tmp fa fun i => n1 i a (by simp))
  · cases h
/-- .. .append(x), of a new list -/
def appT (f fx : EM) : SM := fun env => match f env with
  | some (.ok (.lst xs), e) => if xs.length < 16777216 then (match fx e with
    | some (.ok _, e2) => if (e2.length == e.length) = true then some (.nx, e2) else none
    | _ => none) else none
  | _ => none
/-! ### list(range(a, b)) -/
end
end DS
/-! DS38: a head's look that starts from chosen names (a smaller part of the heap). -/
namespace DS
open PySem PySem.Spec L2
end DS
/-! DS39: defs called with names (the answer plain or owned, no error comes out). -/
namespace DS
open PySem PySem.Spec L2
theorem kbnK {K : PySem.W.Frag} {x qual : Str} {params : Arguments} {body : List Stmt} {scope : Scope} {kws : List (Str × V)} {f : Addr} {fd : FuncData} {ps ks : List Str} {n : Nat}
    (FD : FunD K x qual params body scope [] kws f fd) (ix : List Nat) (ms : List (Str × V)) (hk : kws ≠ []) (hms : ∀ q ∈ ms, q ∈ kws)
    (h : ∀ (D : Addr) (doc pm : Value) (an : Option Addr) (cdv ct : Value) (us mv ws : List Value), us.length = n → mv.length = ms.length → ws.length = ks.length →
      KwChain D ((ms.map (·.1)).zip mv) (bindArgs (PySem.W.fnOf x qual params body scope .none (.ref D) doc pm an cdv ct) ⟨us, ks.zip ws⟩) (ps.zip (pxU ix (us ++ (ws ++ mv))))) :
    ∃ mv : List Value, KBn K fd ps n ks (fun us ws => pxU ix (us ++ (ws ++ mv))) (fun vs zs => pxV ix (vs ++ (zs ++ ms.map (·.2)))) := by
  obtain ⟨oc, od, dV, kV, doc, pm, an, cdv, ct, osl, rfl, lk, hcd, hD, hK⟩ := FD.ex
  rcases hD with ⟨_, rfl⟩ | ⟨e, _⟩
  · rcases hK with e | ⟨D, rfl, hq⟩
    · exact absurd e hk
    · obtain ⟨mv, hl, rk, hks⟩ := kwd_vals (ms := ms) fun q hm => hq q (hms q hm)
      exact ⟨mv, ⟨fun s us ws X l1 l2 => BindsTo.of_looks fun M => KwChain.looks X hks (h D doc pm an cdv ct us mv ws l1 hl l2), fun r1 r2 => px_rel ix (r1.append (r2.append rk))⟩⟩
  · exact absurd rfl e
structure Kd (K : PySem.W.Frag) (mg : Str → Option Value) (x : Str) (st : Stmt) (kws : List (Str × V)) : Prop where
  gl : mg x = some (.ref (He.ga K x))
  ex : ∃ fd, FunD K x x (defArgs st) (defBody st) (defScope st) [] kws (He.ga K x) fd
/-- the promise of a def that is called with the names ks, n arguments ahead of them -/
structure KF (P : Program) (w : World) (K : PySem.W.Frag) (mg : Str → Option Value) (base : Heap) (k : Nat) (x : Str) (n : Nat) (ks : List Str) (gV : List V → List V → List V) (sp : Sp) : Prop where
  gl : mg x = some (.ref (He.ga K x))
  kp : PySem.W.keepIn K (.ref (He.ga K x)) = true
  ex : ∃ fd ps g, FnOk P w K mg base (L2.CX P w) k (He.ga K x) fd ps sp ∧ KBn K fd ps n ks g gV
theorem Kd.fn {T : Tb} {P : Program} {w : World} {K : PySem.W.Frag} {mg : Str → Option Value} {base : Heap} {k n : Nat} {x : Str} {st : Stmt} {kws : List (Str × V)} {ps ks N : List Str} {sm : SM} (F : Kd K mg x st kws) (S : FnScope N ps (defScope st)) (ix : List Nat) (ms : List (Str × V)) (hk : kws ≠ []) (hms : ∀ q ∈ ms, q ∈ kws)
    (h : ∀ (D : Addr) (doc pm : Value) (an : Option Addr) (cdv ct : Value) (us mv ws : List Value), us.length = n → mv.length = ms.length → ws.length = ks.length →
      KwChain D ((ms.map (·.1)).zip mv) (bindArgs (PySem.W.fnOf x x (defArgs st) (defBody st) (defScope st) .none (.ref D) doc pm an cdv ct) ⟨us, ks.zip ws⟩) (ps.zip (pxU ix (us ++ (ws ++ mv)))))
    (hb : ∀ (f : Addr) (cdv : Value) (A : Around) (outer : List Env) (s : Shared) (H : Hp) (E : XK) (PP : Nat → Option V), Room k (A.deeper (PyProof.Rows.envOfC x (defScope st) s.heap.objs.size f cdv)) →
      DSs T (cxOf (L2.CX P w) P w K mg base N x (defScope st) f cdv A outer s H E) PP (fun cls d _ H => E cls d H) (defBody st) sm) :
    KF P w K mg base (k + 1) x n ks (fun vs zs => pxV ix (vs ++ (zs ++ ms.map (·.2)))) (spG T K ps.length (runD N.length sm)) := by
  obtain ⟨fd, FD⟩ := F.ex
  obtain ⟨mv, kb⟩ := kbnK FD ix ms hk hms h
  exact ⟨F.gl, FD.kp, fd, ps, _, fn_ok FD S fun cdv A outer s H E PP hr => hb _ cdv A outer s H E PP hr, kb⟩
end DS
/-! DS40: defs called with names alone. -/
namespace DS
open PySem PySem.Spec L2
end DS
/-! DS41: makers whose defaults lack, also those that are written tuples of texts; a classmethod that makes an object of its class. -/
namespace DS
open PySem PySem.Spec L2
/-! ### binding -/
def dMakeD (c nk n2 nv : Nat) (ix : List Nat) (md : List D) (m : List D → Option (R × List D)) (fa fk : AM) : EM := bL fa fun ds => bL fk fun zs => fun env => if (decide (ds.length + 1 = nv) && (decide (zs.length = nk) && decide ((pxD ix (ds ++ (zs ++ md))).length = n2))) = true then (match m (.pin (.ins c []) :: pxD ix (ds ++ (zs ++ md))) with
  | some (.ok .non, [s]) => some (.ok s, env)
  | _ => none) else none
/-! ### a classmethod that makes an object of its class: `return cls(a, k=b)` -/
/-! ### where classmethods stand -/
theorem cread_ok {K : PySem.W.Frag} {C : Addr} (h : PySem.W.readsIn K C (.type "type") = true) : ClX.CRead K C (.type "type") := by
  refine ⟨h, ?_⟩
  unfold PySem.W.readsIn at h
  simp only [Bool.and_eq_true, beq_iff_eq] at h
  unfold PySem.W.specialIn
  rw [h.1.1.1.2, Option.bind_some]
  exact h.1.1.2
/-! ### a head's look with further roots -/
end DS
/-! DS42: list(d) of a dict with tuples as keys; sorted. -/
namespace DS
open PySem PySem.Spec L2
end DS
/-! DS43: == and != of an own object, by its class's own __eq__. -/
namespace PySem.W
open PySem PySem.Calls PyProof.Rows
section
variable {prog : Program} {w : World} {A : Around} {E : Value → Shared → Prop} {s : Shared} {K : Frag} {x C f : Addr} {ox : Obj} {od : Option Obj} {b tb : Value} {h₀ : Heap} {L : Addr} {m : Str → Option Value}
theorem ne_K {Q : Value → Shared → Prop} (hu : A.units + 1 < cLine) (hFr : Fr h₀ L s.heap m) (X₀ : K.In h₀) (I : InstAt s.heap x ox C od) (hb : Looks (model prog w) s.heap (typeOf b) tb) (hn : notFirst K C tb = true)
    (hne : findIn K (.ref C) "__ne__" = some (some (.builtin "object.__ne__"))) (hs : findIn K (.ref C) "__eq__" = some (some (.ref f))) (hf : isFn K (.ref f) = true) (ho : subIn K (.ref C) (.type "object") = some true)
    (h : wpAny (model prog w) A.in1 (call (.ref f) [.ref x, b]) (fun v s' => ∃ r, v = .bool r ∧ Q (.bool (!r)) s') E s) : wpAny (model prog w) A (richCompare .NotEq (.ref x) b) Q E s := by
  have X := X₀.keeps hFr.keep
  have inst : Looks (model prog w) s.heap (isInstance (.ref x) (.type "object")) true := I.type.andThen (looks_subIn X ho)
  have body : wpAny (model prog w) A.in1 (Builtin.«object.__ne__» ⟨[.ref x, b], []⟩) (fun fin s' => ∃ r, fin = .done (.ret (.bool (!r))) ∧ Q (.bool (!r)) s') E s := by
    unfold Builtin.«object.__ne__»
    repeat (first
      | with_reducible refine wpAny_cRoomFor hu ?_
      | (refine wpAny_bind (m := callSpecialIfBound? (.ref x) (Str.ofString "__eq__") [b])
          (ifBound_K X I hs hf (wpAny_mono h (fun r s' hr => by
            obtain ⟨c, rfl, hq⟩ := hr
            repeat (first | exact ⟨c, rfl, hq⟩ | exact wpAny_pure ⟨c, rfl, hq⟩ | exact wpAny_truthy_bool ⟨c, rfl, hq⟩ | (refine wpAny_bind (m := truthy (.bool _)) (wpAny_truthy_bool ?_)) | wp_step)) fun _ _ e => e)))
      | wp_step)
  have one : wpAny (model prog w) A (tryCompare (.ref x) "__ne__" b) (fun r s' => ∃ v, r = some v ∧ Q v s') E s := by
    unfold tryCompare
    refine wpAny_bind ?_
    simp only [callSpecialIfBound?, bindSpecialIfBound?]
    refine wpAny_holding (wpAny_bind (wpAny_bind (wpAny_bind (I.type.here ((looks_findIn X hne).here ?_)))))
    simp only [F.cmp_object.ne.bind]
    refine wpAny_bind (wpAny_askSetting (wpAny_ite ?_))
    have fin : wpAny (model prog w) A (call (.builtin "object.__ne__") ([.ref x] ++ [b]) >>= fun v => pure (some v)) (fun r s' => wpAny (model prog w) A (match r with | some Value.notImplemented => pure none | none => pure none | some v => pure (some v)) (fun r s' => ∃ v, r = some v ∧ Q v s') E s') E s := by
      refine wpAny_bind (wpAny_call (codeAny_call_builtin F.cmp_object.ne.plain F.cmpEntry_ne (check_slot F.cmpKind_ne F.cmpSplit_ne inst (F.cmpArgs_ne _ _) (wpAny_mono body (fun fin s' hf' => ?_) fun _ _ e => e))))
      obtain ⟨r, rfl, hq⟩ := hf'
      exact wpAny_pure (wpAny_pure ⟨_, rfl, hq⟩)
    split
    · exact wpAny_bind (wpAny_pure (wpAny_pure fin))
    · exact wpAny_tryCatch (wpAny_bind (wpAny_pure (wpAny_pure fin)))
  unfold richCompare
  simp only [oneThing_ref]
  refine wpAny_holding (wpAny_bind (wpAny_cRoomFor (Nat.lt_of_succ_lt hu) ?_))
  refine wpAny_bind (I.type.here (wpAny_bind (hb.here ?_)))
  split
  · rename_i q
    have e : subIn K tb (.ref C) = some false := by
      rcases Bool.or_eq_true_iff.mp hn with e | e
      · rw [beq_iff_eq.mp e] at q; simp at q
      · exact beq_iff_eq.mp e
    refine wpAny_bind ((looks_subIn X e).here ?_)
    simp only [Bool.false_eq_true, if_false]
    refine wpAny_bind (wpAny_mono one (fun r s' z => ?_) fun _ _ e => e)
    obtain ⟨v, rfl, hq⟩ := z
    exact wpAny_pure hq
  · refine wpAny_bind (wpAny_pure ?_)
    simp only [Bool.false_eq_true, if_false]
    refine wpAny_bind (wpAny_mono one (fun r s' z => ?_) fun _ _ e => e)
    obtain ⟨v, rfl, hq⟩ := z
    exact wpAny_pure hq
end
end PySem.W
namespace DS
open PySem PySem.Spec L2
/-- what == and != of an own object come to -/
def rCmpO (T : Tb) (K : PySem.W.Frag) (cnm : Str) (m : List D → Option (R × List D)) (neg : Bool) : R2 := fun x y H Q => ∃ a dx fs t, x = .ref a ∧ H a = some (.ins (He.ga K cnm) dx fs) ∧ TyX K H y t ∧ PySem.W.notFirst K (He.ga K cnm) t = true ∧
  spG T K 2 m [x, y] H (fun v H' => ∃ r, v = .bl r ∧ Q (.bl (r ^^ neg)) H') (fun _ _ _ => False)
/-- the class's own __eq__ -/
structure EqF (K : PySem.W.Frag) (C f : Addr) : Prop where
  eq : PySem.W.findIn K (.ref C) "__eq__" = some (some (.ref f))
  fn : PySem.W.isFn K (.ref f) = true
  ne : PySem.W.findIn K (.ref C) "__ne__" = some (some (.builtin "object.__ne__"))
  ob : PySem.W.subIn K (.ref C) (.type "object") = some true
section
variable {T : Tb} {X : Cx} {P : Nat → Option V} {W : WX} {K : PySem.W.Frag} {F F' F1 H H' H1 : Hp} {g g1 : Nat → List Addr} {env env' : DEnv} {σ : L2.St}
/-- the own __eq__ run somewhere below -/
theorem run_eqO {k : Nat} {f a : Addr} {m : List D → Option (R × List D)} {n : Nat} {A : Around} {pins : List (Addr × Obj)} {H : Hp} {s : Shared} {y : V} {v : Value} {Q : V → Hp → Prop}
    (G : FnR X.prog X.w X.K X.mg X.base (L2.CX X.prog X.w) k f (spG T X.K n m)) (hr : Room k A) (hfr : A.frames = X.A.frames) (I : Inv X pins σ H s) (ry : RelV y v)
    (h : spG T X.K n m [.ref a, y] H Q (fun _ _ _ => False)) : wpAny (model X.prog X.w) A (call (.ref f) [.ref a, v]) (EP X pins σ Q) X.xe s := by
  have e0 : Env0 X.prog X.w X.K X.mg X.base A X.stack s H := by
    have e := I.env0
    exact ⟨by rw [hfr]; exact e.frames, e.mod, e.bs, e.bsz, e.funs, e.frf, e.hok, e.bare⟩
  refine wpAny_call (codeAny_mono (G A X.stack s H [.ref a, v] [.ref a, y] _ _ hr e0 (.cons rfl (.cons ry .nil)) h) fun r s' hq => ?_)
  cases r with
  | error e => exact False.elim (by obtain ⟨_, _, _, _, _, _, _, _, _, _, _, _, q⟩ := hq; exact q)
  | ok fl =>
    cases fl with
    | ret w =>
      obtain ⟨z, H', I', rz, ez⟩ := I.after hq
      exact ⟨z, H', I', rz, ez⟩
    | next => exact False.elim hq
    | brk => exact False.elim hq
    | cont => exact False.elim hq
theorem op_eqO {k : Nat} {f : Addr} {cnm : Str} {m : List D → Option (R × List D)} (EF : EqF X.K (He.ga X.K cnm) f) (G : FnR X.prog X.w X.K X.mg X.base (L2.CX X.prog X.w) k f (spG T X.K 2 m)) (hr : Room (k + 1) X.A) : OpR X (compareOp .Eq) (rCmpO T X.K cnm m false) := by
  intro pins s σ H x y v u Q I rx ry hq
  obtain ⟨a, dx, fs, t, rfl, ha, ty, nf, hsp⟩ := hq
  cases rx
  show wpAny (model X.prog X.w) X.A (richCompare .Eq _ u) (EP X pins σ Q) X.xe s
  obtain ⟨mA, J, _⟩ := ins_get I.hok ha
  obtain ⟨od, J, _⟩ := J.look
  obtain ⟨m', hF⟩ := I.fr
  obtain ⟨Pk, kx, pk, _⟩ := kit_of I ry ty
  refine PySem.W.cmp_K (op := .Eq) (tb := t) hr.units0 hF I.ok.mod.kin J (kx.ty _ _ I.kIn pk) nf EF.eq EF.fn ?_
  refine wpAny_mono (run_eqO (T := T) G (room_le hr (Nat.le_succ k)) rfl I ry hsp) (fun r s' z => ?_) fun _ _ e => e
  obtain ⟨z, H', I', rz, r', rfl, q⟩ := z
  cases rz
  rw [Bool.xor_false] at q
  exact ⟨.bl r', H', I', rfl, q⟩
theorem op_neO {k : Nat} {f : Addr} {cnm : Str} {m : List D → Option (R × List D)} (EF : EqF X.K (He.ga X.K cnm) f) (G : FnR X.prog X.w X.K X.mg X.base (L2.CX X.prog X.w) k f (spG T X.K 2 m)) (hr : Room (k + 1) X.A) : OpR X (compareOp .NotEq) (rCmpO T X.K cnm m true) := by
  intro pins s σ H x y v u Q I rx ry hq
  obtain ⟨a, dx, fs, t, rfl, ha, ty, nf, hsp⟩ := hq
  cases rx
  show wpAny (model X.prog X.w) X.A (richCompare .NotEq _ u) (EP X pins σ Q) X.xe s
  obtain ⟨mA, J, _⟩ := ins_get I.hok ha
  obtain ⟨od, J, _⟩ := J.look
  obtain ⟨m', hF⟩ := I.fr
  obtain ⟨Pk, kx, pk, _⟩ := kit_of I ry ty
  refine PySem.W.ne_K (tb := t) (by have := hr.units; omega) hF I.ok.mod.kin J (kx.ty _ _ I.kIn pk) nf EF.ne EF.eq EF.fn EF.ob ?_
  refine wpAny_mono (run_eqO (T := T) G hr.in1 rfl I ry hsp) (fun r s' z => ?_) fun _ _ e => e
  obtain ⟨z, H', I', rz, r', rfl, q⟩ := z
  cases rz
  rw [Bool.xor_true] at q
  exact ⟨r', rfl, .bl (!r'), H', I', rfl, q⟩
def fCmpO (c : Nat) (m : List D → Option (R × List D)) (neg : Bool) (x y : D) : Option D := match x with
  | .ins c' _ => if (decide (c' = c) && (kindOf y).isSome) = true then (match m [x, y] with
    | some (.ok (.bl r), []) => some (.bl (r ^^ neg))
    | _ => none) else none
  | _ => none
/-- what the classes of the other side ask -/
def NfOk (T : Tb) (K : PySem.W.Frag) (cnm : Str) : Prop := ∀ (k : KT) t, k.v T K = some t → PySem.W.notFirst K (He.ga K cnm) t = true
theorem sound_cmpO {c : Nat} {cnm : Str} {m : List D → Option (R × List D)} {neg : Bool} (hcn : T.cn[c]? = some cnm) (cf : CF T K) (nf : NfOk T K cnm) {fa fb : EM} {ta tb : TE} (sa : SoundE T K P W fa ta) (sb : SoundE T K P W fb tb) : SoundE T K P W (dOp (fCmpO c m neg) fa fb) (tOp (rCmpO T K cnm m neg) ta tb) := by
  intro env r env' h F g σ H Q A post
  refine soundE_bind sa h A post.exx fun x e1 h1 v F1 g1 H1 G1 A1 R1 => ?_
  refine soundE_bind sb h1 A1 (post.grow G1).exx fun y e2 h2 u F2 g2 H2 G2 A2 R2 => ?_
  obtain ⟨z, hz, rfl, rfl⟩ := lift_eq h2
  unfold fCmpO at hz
  split at hz
  · rename_i c' fs
    split at hz
    · rename_i hc
      rw [Bool.and_eq_true, decide_eq_true_eq] at hc
      obtain ⟨rfl, hk⟩ := hc
      split at hz
      · rename_i b em
        cases hz
        have R1' := Rep.mono G2.sub _ _ R1
        have Rx := R1'
        simp only [Rep] at Rx
        obtain ⟨a, dx, n, l, rfl, ⟨hh, hn⟩, hF, _⟩ := Rx
        rw [hcn] at hn
        cases hn
        obtain ⟨kt, hkt⟩ := Option.isSome_iff_exists.mp hk
        obtain ⟨t, ht, ty⟩ := tyx_of cf A2.sub R2 hkt
        refine ⟨a, dx, l, t, rfl, A2.sub _ _ hF, ty, nf kt t ht, ?_⟩
        refine sound_callG (d := .bl b) (W := W) em rfl rfl A2 (Reps.cons R1' (Reps.cons R2 Reps.nil)) ?_
        intro v F' g' H' G' A' R'
        simp only [Rep] at R'
        exact ⟨b, R', (post.grow (G1.trans G2)) _ F' g' H' G' A' rep_bl⟩
      · cases hz
    · cases hz
  · cases hz
variable {a b : Expr} {fa fb : EM} {pos : Pos} {k k' c : Nat} {f : Addr} {cnm : Str} {m : List D → Option (R × List D)}
theorem de_cmpE (hcn : T.cn[c]? = some cnm) (cf : CF T X.K) (nf : NfOk T X.K cnm) (EF : EqF X.K (He.ga X.K cnm) f) (G : FnR X.prog X.w X.K X.mg X.base (L2.CX X.prog X.w) k f (spG T X.K 2 m)) (hr : Room (k + 1) X.A) (ha : DE T X P W a fa) (hb : DE T X P W b fb) (hm : behindInMarks .Eq b = false) : DE T X P W (.Compare a [.Eq] [b] pos) (dOp (fCmpO c m false) fa fb) := by
  obtain ⟨ta, pa, sa⟩ := ha.ex
  obtain ⟨tb, pb, sb⟩ := hb.ex
  exact ⟨_, pe_cmpR (op_eqO EF G hr) pa pb hm, sound_cmpO hcn cf nf sa sb⟩
/-- the facts, as tests -/
theorem eqFB_ok {K : PySem.W.Frag} {x : Str} (h : eqFB K x = true) : EqF K (He.ga K x) (He.ma K (He.ga K x) "__eq__") := by
  unfold eqFB at h
  simp only [Bool.and_eq_true, decide_eq_true_eq] at h
  exact ⟨h.1, h.2.1, h.2.2.1, h.2.2.2⟩
theorem nfB_ok {T : Tb} {K : PySem.W.Frag} {x : Str} (h : nfB K T.cn T.hs x = true) : NfOk T K x := by
  intro k t e
  unfold nfB at h
  rw [Bool.and_eq_true] at h
  cases k with
  | b s =>
    simp only [KT.v, Option.some.injEq] at e
    subst e
    exact List.all_eq_true.mp h.1 s (by cases s <;> decide)
  | o c =>
    simp only [KT.v] at e
    split at e
    · rename_i hh
      rw [Option.map_eq_some_iff] at e
      obtain ⟨m, hm, rfl⟩ := e
      have := List.all_eq_true.mp h.2 c hh
      rw [hm] at this
      exact this
    · cases e
end
/-- a method's promise as a function's -/
theorem MF.raw {P : Program} {w : World} {K : PySem.W.Frag} {mg : Str → Option Value} {base : Heap} {k : Nat} {cnm mnm : Str} {ps : List Str} {sp : Sp} (G : MF P w K mg base k cnm mnm ps sp) : FnR P w K mg base (L2.CX P w) k (He.ma K (He.ga K cnm) mnm) sp := by
  obtain ⟨fd, O, b⟩ := G.ex
  exact (FnOk.raw (ds := []) (dvs := []) O b .nil).imp fun vs H Q E h => by rw [List.append_nil]; exact h
end DS
/-! DS44: len and repr of an own object; f-strings; insert; append to a new answer; an own list lent to an expression whose value holds no list. -/
namespace DS
open PySem PySem.Spec L2
section
variable {T : Tb} {X : Cx} {P : Nat → Option V} {W : WX} {K : PySem.W.Frag} {F F' F1 H H' H1 : Hp} {g g1 : Nat → List Addr} {env env' : DEnv} {σ : L2.St}
/-- an own method of one argument run somewhere below -/
theorem run_one {k : Nat} {f a : Addr} {m : List D → Option (R × List D)} {n : Nat} {A : Around} {pins : List (Addr × Obj)} {H : Hp} {s : Shared} {Q : V → Hp → Prop}
    (G : FnR X.prog X.w X.K X.mg X.base (L2.CX X.prog X.w) k f (spG T X.K n m)) (hr : Room k A) (hfr : A.frames = X.A.frames) (I : Inv X pins σ H s)
    (h : spG T X.K n m [.ref a] H Q (fun _ _ _ => False)) : wpAny (model X.prog X.w) A (call (.ref f) [.ref a]) (EP X pins σ Q) X.xe s := by
  have e0 : Env0 X.prog X.w X.K X.mg X.base A X.stack s H := by
    have e := I.env0
    exact ⟨by rw [hfr]; exact e.frames, e.mod, e.bs, e.bsz, e.funs, e.frf, e.hok, e.bare⟩
  refine wpAny_call (codeAny_mono (G A X.stack s H [.ref a] [.ref a] _ _ hr e0 (.cons rfl .nil) h) fun r s' hq => ?_)
  cases r with
  | error e => exact False.elim (by obtain ⟨_, _, _, _, _, _, _, _, _, _, _, _, q⟩ := hq; exact q)
  | ok fl =>
    cases fl with
    | ret w =>
      obtain ⟨z, H', I', rz, ez⟩ := I.after hq
      exact ⟨z, H', I', rz, ez⟩
    | next => exact False.elim hq
    | brk => exact False.elim hq
    | cont => exact False.elim hq
/-- the class's own method of the name mnm -/
structure SpF (K : PySem.W.Frag) (C f : Addr) (mnm : Str) : Prop where
  at_ : PySem.W.findIn K (.ref C) mnm = some (some (.ref f))
  fn : PySem.W.isFn K (.ref f) = true
theorem spFB_ok {K : PySem.W.Frag} {x mnm : Str} (h : spFB K x mnm = true) : SpF K (He.ga K x) (He.ma K (He.ga K x) mnm) mnm := by
  unfold spFB at h
  simp only [Bool.and_eq_true, decide_eq_true_eq] at h
  exact ⟨h.1, h.2⟩
def rReprO (T : Tb) (K : PySem.W.Frag) (cnm : Str) (m : List D → Option (R × List D)) : List V → Hp → VK → Prop := fun xs H Q => ∃ a dx fs, xs = [.ref a] ∧ H a = some (.ins (He.ga K cnm) dx fs) ∧
  spG T K 1 m [.ref a] H (fun v H' => ∃ y, v = .str y ∧ Q (.str y) H') (fun _ _ _ => False)
theorem cr_reprO {k : Nat} {f : Addr} {cnm : Str} {m : List D → Option (R × List D)} (EF : SpF X.K (He.ga X.K cnm) f "__repr__") (G : FnR X.prog X.w X.K X.mg X.base (L2.CX X.prog X.w) k f (spG T X.K 1 m)) (hr : Room (k + 1) X.A) : CallR X (.builtin "repr") (rReprO T X.K cnm m) := by
  intro pins s σ H xs us Q I r h
  obtain ⟨a, dx, fs, rfl, ha, hsp⟩ := h
  obtain ⟨u, rfl, ru⟩ := r.one
  cases ru
  obtain ⟨mA, J, _⟩ := ins_get I.hok ha
  obtain ⟨od, J, _⟩ := J.look
  obtain ⟨m', hF⟩ := I.fr
  refine PySem.W.repr_K hr.in1.units0 hF I.ok.mod.kin J EF.at_ EF.fn (wpAny_mono (run_one (T := T) G hr.in1 rfl I hsp) (fun r s' z => ?_) fun _ _ e => e)
  obtain ⟨z, H', I', rz, y, rfl, q⟩ := z
  obtain ⟨t, rfl⟩ := rz
  exact ⟨.str y, H', I', ⟨_, rfl⟩, q⟩
def dLenO (c : Nat) (m : List D → Option (R × List D)) (fa : AM) : EM := bL fa fun ds => fun env => match ds with
  | [.ins c' fs] => if c' = c then (match m [.ins c' fs] with
    | some (.ok (.int n), []) => if (geI 0 n && ltI 16777217 n) = true then some (.ok (.int n), env) else none
    | _ => none) else none
  | _ => none
def dReprO (c : Nat) (m : List D → Option (R × List D)) (fa : AM) : EM := bL fa fun ds => fun env => match ds with
  | [.ins c' fs] => if c' = c then (match m [.ins c' fs] with
    | some (.ok (.str y), []) => some (.ok (.str y), env)
    | _ => none) else none
  | _ => none
variable {k k' c : Nat} {f : Addr} {cnm x : Str} {m : List D → Option (R × List D)} {p pos : Pos} {e : Expr} {es : List Expr} {fa : AM}
theorem de_reprO (hcn : T.cn[c]? = some cnm) (EF : SpF X.K (He.ga X.K cnm) f "__repr__") (G : FnR X.prog X.w X.K X.mg X.base (L2.CX X.prog X.w) k f (spG T X.K 1 m)) (hr : Room (k + 1) X.A) (hg : Gl X x) (hm : X.mg x = none) (hv : bootBuiltins x = some (.builtin "repr")) (ha : DA T X P W (e :: es) fa)
    (hn : x ≠ "__name__") (hdb : (x == ("__debug__" : Str)) = false) (he : starEach (e :: es) X.env = (false, eval e X.env) :: starEach es X.env) (hpl : (backTo pos (starEach es X.env)).any (·.1) = false) : DE T X P W (.Call (.Name x p) (e :: es) [] pos) (dReprO c m fa) := by
  obtain ⟨ta, pa, sa⟩ := ha.ex
  refine ⟨_, pe_callB (cr_reprO EF G hr) hg hm hv pa hn hdb he hpl, fun env o env' h F g σ H Q A post => ?_⟩
  refine soundL_bind sa h A post.exx fun ds e1 h1 vs F1 g1 H1 G1 A1 R1 => ?_
  split at h1
  · rename_i c' fs
    split at h1
    · rename_i hc
      subst hc
      split at h1
      · rename_i y em
        simp only [Option.some.injEq, Prod.mk.injEq] at h1
        obtain ⟨rfl, rfl⟩ := h1
        have R2 := R1
        obtain ⟨v, rfl, Rx⟩ := reps1 (ds := []) R1
        simp only [Rep] at Rx
        obtain ⟨a, dx, nm, l, rfl, ⟨hh, hn⟩, hF, _⟩ := Rx
        rw [hcn] at hn
        cases hn
        refine ⟨a, dx, l, rfl, A1.sub _ _ hF, sound_callG (d := .str y) (W := W) em rfl rfl A1 R2 ?_⟩
        intro v F' g' H' G' A' R'
        have R'' := R'
        simp only [Rep] at R'
        exact ⟨_, R'.1, (post.grow G1) _ F' g' H' G' A' (by rw [← R'.1]; exact R'')⟩
      · cases h1
    · cases h1
  · cases h1
end
/-! ### f-strings -/
section
variable {T : Tb} {X : Cx} {P : Nat → Option V} {W : WX} {K : PySem.W.Frag} {F F' F1 H H' H1 : Hp} {g g1 : Nat → List Addr} {env env' : DEnv} {σ : L2.St}
def fFmt : D → Option D
  | .int i => if (decide (i.natAbs.log2 < 1920) && strB (numD i)) = true then some (.str (numD i)) else none
  | .str x => some (.str x)
  | _ => none
theorem de_fmt {e : Expr} {fe : EM} {pos : Pos} (he : DE T X P W e fe) : DE T X P W (.FormattedValue e (-1) none pos) (dUn fFmt fe) := by
  obtain ⟨te, pe, se⟩ := he.ex
  refine ⟨_, pe_fmt pe, fun env r env' h F g σ H Q A post => ?_⟩
  refine soundE_bind se h A post.exx fun x e1 h1 v F1 g1 H1 G1 A1 R1 => ?_
  obtain ⟨z, hz, rfl, rfl⟩ := lift_eq h1
  unfold fFmt at hz
  split at hz
  · rename_i i
    split at hz
    · rename_i hc
      cases hz
      obtain ⟨c1, c2⟩ := Bool.and_eq_true_iff.mp hc
      simp only [Rep] at R1
      exact .inr ⟨i, R1, of_decide_eq_true c1, post _ F1 g1 H1 G1 A1 (rep_num c2)⟩
    · cases hz
  · rename_i x
    cases hz
    have R2 := R1
    simp only [Rep] at R1
    exact .inl ⟨_, R1.1, by rw [str_length, lim_eq]; exact strB_len R1.2, post _ F1 g1 H1 G1 A1 (by rw [← R1.1]; exact R2)⟩
  · cases hz
def dJs : List EM → List Nat → EM
  | [], acc => fun env => some (.ok (.str acc), env)
  | f :: fs, acc => bE f fun x => match x with
    | .str y => if (acc ++ y).length ≤ 16777216 then dJs fs (acc ++ y) else fun _ => none
    | _ => fun _ => none
structure DJ (T : Tb) (X : Cx) (P : Nat → Option V) (W : WX) (es : List Expr) (fs : List EM) : Prop where
  ex : ∃ ts, PJ X es ts ∧ ∀ acc, strB acc = true → ∀ env r env', dJs fs acc env = some (r, env') → ∀ F g σ H Q, Abs T X.K P F g env σ H → PostE T X.K P W env' F g σ H Q r → tJs ts ⟨acc.toArray⟩ σ H fun out H1 => Q (.str out) H1
theorem dj_nil : DJ T X P W [] [] := by
  refine ⟨[], .nil, fun acc ha env r env' h F g σ H Q A post => ?_⟩
  simp only [dJs, Option.some.injEq, Prod.mk.injEq] at h
  obtain ⟨rfl, rfl⟩ := h
  exact post _ F g H (Grow.refl _ _ _) A (rep_s ha)
theorem dj_cons {e : Expr} {fe : EM} {es : List Expr} {fs : List EM} (he : DE T X P W e fe) (hr : DJ T X P W es fs) : DJ T X P W (e :: es) (fe :: fs) := by
  obtain ⟨te, pe, se⟩ := he.ex
  obtain ⟨ts, pj, sj⟩ := hr.ex
  refine ⟨te :: ts, .cons pe pj, fun acc ha env r env' h F g σ H Q A post => ?_⟩
  unfold dJs at h
  show te σ H _
  refine soundE_bind se h A post.exx fun x e1 h1 v F1 g1 H1 G1 A1 R1 => ?_
  cases x with
  | str y =>
    simp only at h1
    split at h1
    · rename_i hl
      simp only [Rep] at R1
      obtain ⟨rfl, hb⟩ := R1
      have hab : strB (acc ++ y) = true := by
        unfold strB at ha hb ⊢
        rw [Bool.and_eq_true] at ha hb
        rw [List.all_append, ha.1, hb.1]
        exact decide_eq_true hl
      have ea : (⟨acc.toArray⟩ : Str) ++ ⟨y.toArray⟩ = ⟨(acc ++ y).toArray⟩ := by
        apply TL.ext_tl
        rw [TL.tl_append]
      refine ⟨⟨y.toArray⟩, rfl, ?_, ?_⟩
      · rw [ea, str_length, lim_eq]; exact hl
      · rw [ea]
        exact sj _ hab _ _ _ h1 F1 g1 σ H1 Q A1 (post.grow G1)
    · cases h1
  | _ => cases h1
theorem de_joined {v1 v2 : Expr} {rest : List Expr} {fs : List EM} {pos : Pos} (h : DJ T X P W (v1 :: v2 :: rest) fs) : DE T X P W (.JoinedStr (v1 :: v2 :: rest) pos) (dJs fs []) := by
  obtain ⟨ts, pj, sj⟩ := h.ex
  exact ⟨_, pe_joined pj, fun env r env' h F g σ H Q A post => sj [] rfl env r env' h F g σ H Q A post⟩
/-! ### insert; append to a new answer -/
theorem ds_appT {e a : Expr} {f fa : EM} {ap cp pos : Pos} (he : DO T X P W e f) (hx : DE T X P W a fa) (hat : attributeBase e "append" X.env (eval e X.env) = eval e X.env)
    (hb : ((((backTo cp (starEach [a] X.env)).all fun x => !x.fst) && (backToKw cp (keywordEach [] X.env)).all fun x => x.fst.isSome) && decide (([a] : List Expr).length + ([] : List Keyword).length + (if ([] : List Keyword).isEmpty = true then 0 else 1) < 30)) = true)
    (hl : (ap.endLine == cp.line) = true) (s1 : starEach [a] X.env = (false, eval a X.env) :: starEach [] X.env) (h5 : ((backTo cp (starEach [] X.env)).any fun x => x.fst) = false)
    (hs : swapsWith (.Call (.Attribute e "append" ap) [a] [] cp) none pos.line X.env = pure false) : DS1 T X P W (.Expr (.Call (.Attribute e "append" ap) [a] [] cp) pos) (appT f fa) := by
  obtain ⟨te, pe, se⟩ := he.ex
  obtain ⟨ta, pa, sa⟩ := hx.ex
  refine ⟨_, ps_expr (pe_bm PySem.F.plainAttrs_list PySem.F.slot_list_append PySem.F.type_list_append mt_append pe (pa_cons pa pa_nil s1) hat hb hl s1 h5) hs, fun env o env' h F g σ H Z A post => ?_⟩
  unfold appT at h
  split at h
  · rename_i xs e1 ef
    split at h
    · rename_i hlen
      split at h
      · rename_i d e2 eb
        split at h
        · simp only [Option.some.injEq, Prod.mk.injEq] at h
          obtain ⟨rfl, rfl⟩ := h
          refine se _ _ _ ef F g σ H _ A fun v fp F1 g1 H1 G1 A1 R1 n1 m1 => ?_
          simp only [RepO] at R1
          obtain ⟨b, vs, rfl, rfl, fa', ha, hr⟩ := R1
          refine ⟨.inl ⟨rfl, _, SqL.of ha⟩, ?_⟩
          show ta σ H1 _
          refine sa _ _ _ eb F1 g1 σ H1 _ A1 fun u F2 g2 H2 G2 A2 R2 => ?_
          have nb : ∀ i, b ∉ g1 i := fun i => n1 i b (by simp)
          have h2 : H2 b = some (.lst vs) := G2.keep _ _ nb ha
          have f2 : F2 b = none := G2.fresh _ _ nb ha fa'
          have nb2 : ∀ i, b ∉ g2 i := fun i hi => by
            rcases G2.new i b hi with ⟨j, hj⟩ | q
            · exact nb j hj
            · rw [ha] at q; cases q
          refine ⟨_, vs, u, rfl, rfl, h2, ?_, ?_⟩
          · rw [← hr.length, lim_eq]; exact hlen
          · exact post _ _ _ _ ((G1.trans G2).tmp (m1 b (by simp))) (A2.tmp f2 nb2)
        · cases h
      · cases h
    · cases h
  · cases h
end
end DS
/-! DS45: an own list lent to an expression: what comes out holds no list, so the list is its owner's again. -/
namespace DS
open PySem PySem.Spec L2
end DS
/-! DS46: a def with a pinned argument that answers an owned thing. -/
namespace DS
open PySem PySem.Spec L2
end DS
/-! DS47: len of a dict whose keys are tuples. -/
namespace DS
open PySem PySem.Spec L2
end DS
/-! DS48: tuples that hold owned items: made of a variable's owned list, and taken apart. -/
namespace DS
open PySem PySem.Spec L2
section
variable {T : Tb} {X : Cx} {P : Nat → Option V} {W : WX} {K : PySem.W.Frag} {F F' F1 H H' H1 : Hp} {g g1 : Nat → List Addr} {env env' : DEnv} {σ : L2.St}
theorem tupO_get : ∀ {ds : List D} {vs : List V} {fp : List Addr} {i : Nat} {d : D}, TupO T K F H ds vs fp → ds[i]? = some d → ∃ v f1, vs[i]? = some v ∧ (∀ x ∈ f1, x ∈ fp) ∧ RepO T K F H d v f1 ∧ ds.length = vs.length
  | [], vs, fp, i, d, h, e => by cases e
  | c :: ds, vs, fp, 0, d, h, e => by
    simp only [TupO] at h
    obtain ⟨v, l', f1, f2, rfl, rfl, h3, h5, h6⟩ := h
    simp only [List.getElem?_cons_zero, Option.some.injEq] at e
    subst e
    refine ⟨v, f1, rfl, fun x hx => List.mem_append_left _ hx, h5, ?_⟩
    have : ∀ {ds : List D} {vs : List V} {fp : List Addr}, TupO T K F H ds vs fp → ds.length = vs.length := by
      intro ds
      induction ds with
      | nil => intro vs fp h; simp only [TupO] at h; rw [h.1]; rfl
      | cons d ds ih =>
        intro vs fp h
        simp only [TupO] at h
        obtain ⟨v, l', f1, f2, rfl, rfl, h3, h5, h6⟩ := h
        simp only [List.length_cons, ih h6]
    simp only [List.length_cons, this h6]
  | c :: ds, vs, fp, i + 1, d, h, e => by
    simp only [TupO] at h
    obtain ⟨v, l', f1, f2, rfl, rfl, h3, h5, h6⟩ := h
    rw [List.getElem?_cons_succ] at e
    obtain ⟨v', f', h7, h8, h9, h10⟩ := tupO_get h6 e
    exact ⟨v', f', by rw [List.getElem?_cons_succ]; exact h7, fun x hx => List.mem_append_right _ (h8 x hx), h9, by simp only [List.length_cons, h10]⟩
end
end DS
/-! DS49: an own list stands in a display that is looked at once; then it is changed, and the display is forgotten. -/
namespace DS
open PySem PySem.Spec L2
end DS
/-! DS50: a head's look in two halves (two runs, each with a smaller memory). -/
namespace DS
open PySem PySem.Spec L2
end DS
/-! DS51: three comparisons of own objects in a row; a class's constant. -/
namespace DS
open PySem PySem.Spec L2 PyProof.Rows
section
variable {T : Tb} {X : Cx} {P : Nat → Option V} {W : WX} {K : PySem.W.Frag} {F F' F1 H H' H1 : Hp} {g g1 : Nat → List Addr} {env env' : DEnv} {σ : L2.St}
def tChain3 (r r' r'' : R2) (ta tb tc td : TE) : TE := fun σ H Q => ta σ H fun x H1 => tb σ H1 fun y H2 => r x y H2 fun z H3 => ∃ k, z = .bl k ∧
  (if k = true then tc σ H3 fun u H4 => r' y u H4 fun z' H5 => ∃ k', z' = .bl k' ∧ (if k' = true then td σ H5 fun v H6 => r'' u v H6 Q else Q (.bl false) H5) else Q (.bl false) H3)
theorem pe_chain3 {op op' op'' : CmpOp} {r r' r'' : R2} {a b c d : Expr} {ta tb tc td : TE} {pos : Pos} (ho : OpR X (compareOp op) r) (ho' : OpR X (compareOp op') r') (ho'' : OpR X (compareOp op'') r'') (ha : PE X a ta) (hb : PE X b tb) (hc : PE X c tc) (hd : PE X d td)
    (hm : lastMarks [op, op', op''] [b, c, d] = false) : PE X (.Compare a [op, op', op''] [b, c, d] pos) (tChain3 r r' r'' ta tb tc td) := by
  refine ⟨fun pins s σ H Q I h => ?_⟩
  refine Compare_chain (thn (ha.run pins s σ H _ I h) fun v s1 ⟨x, H1, I1, r1, q1⟩ => chain_link (thn (hb.run pins s1 σ H1 _ I1 q1) fun u s2 ⟨y, H2, I2, r2, q2⟩ =>
    thn (ho pins s2 σ H2 x y v u _ I2 r1 r2 q2) fun d s3 ⟨z, H3, I3, r3, k, e, q3⟩ => ?_)) hm
  subst e
  cases r3
  refine wpAny_truthy_bool ?_
  cases k with
  | false => exact ite_ff ⟨.bl false, H3, I3, rfl, q3⟩
  | true =>
    refine ite_tt (chain_link (thn (hc.run pins s3 σ H3 _ I3 q3) fun w' s4 ⟨z', H4, I4, r4, q4⟩ => thn (ho' pins s4 σ H4 y z' u w' _ I4 r2 r4 q4) fun d2 s5 ⟨z2, H5, I5, r5, k2, e2, q5⟩ => ?_))
    subst e2
    cases r5
    refine wpAny_truthy_bool ?_
    cases k2 with
    | false => exact ite_ff ⟨.bl false, H5, I5, rfl, q5⟩
    | true => exact ite_tt (chain_last (thn (hd.run pins s5 σ H5 _ I5 q5) fun w3 s6 ⟨z3, H6, I6, r6, q6⟩ => ho'' pins s6 σ H6 z' z3 w' w3 Q I6 r4 r6 q6))
def chain3 (f f' f'' : D → D → Option D) (fa fb fc fd : EM) : EM := bE fa fun x => bE fb fun y => bE (lift (f x y)) fun z => match z with
  | .bl true => bE fc fun u => bE (lift (f' y u)) fun z' => match z' with
    | .bl true => bE fd fun v => lift (f'' u v)
    | .bl false => dC (.bl false)
    | _ => lift none
  | .bl false => dC (.bl false)
  | _ => lift none
theorem cmpO_use {c : Nat} {cnm : Str} {m : List D → Option (R × List D)} {neg : Bool} (hcn : T.cn[c]? = some cnm) (cf : CF T K) (nf : NfOk T K cnm) {x y z : D} {vx vy : V} {Q : VK} (hz : fCmpO c m neg x y = some z) (A : Abs T K P F g env σ H) (R1 : Rep T K F x vx) (R2 : Rep T K F y vy)
    (post : ∀ b F' g' H', z = .bl b → Grow F g H F' g' H' → Abs T K P F' g' env σ H' → Q (.bl b) H') : rCmpO T K cnm m neg vx vy H Q := by
  unfold fCmpO at hz
  split at hz
  · rename_i c' fs
    split at hz
    · rename_i hc
      rw [Bool.and_eq_true, decide_eq_true_eq] at hc
      obtain ⟨rfl, hk⟩ := hc
      split at hz
      · rename_i b em
        cases hz
        have Rx := R1
        simp only [Rep] at Rx
        obtain ⟨a, dx, n, l, rfl, ⟨hh, hn⟩, hF, _⟩ := Rx
        rw [hcn] at hn
        cases hn
        obtain ⟨kt, hkt⟩ := Option.isSome_iff_exists.mp hk
        obtain ⟨t, ht, ty⟩ := tyx_of cf A.sub R2 hkt
        refine ⟨a, dx, l, t, rfl, A.sub _ _ hF, ty, nf kt t ht, ?_⟩
        refine sound_callG (d := .bl b) (W := fun _ _ _ _ => False) em rfl rfl A (Reps.cons R1 (Reps.cons R2 Reps.nil)) ?_
        intro v F' g' H' G' A' R'
        simp only [Rep] at R'
        exact ⟨b, R', post _ F' g' H' rfl G' A'⟩
      · cases hz
    · cases hz
  · cases hz
variable {a b e3 e4 : Expr} {fa fb fc fd : EM} {pos : Pos} {k c : Nat} {f : Addr} {cnm : Str} {m : List D → Option (R × List D)}
/-- a == b != c == d -/
theorem de_chain3 (hcn : T.cn[c]? = some cnm) (cf : CF T X.K) (nf : NfOk T X.K cnm) (EF : EqF X.K (He.ga X.K cnm) f) (G : FnR X.prog X.w X.K X.mg X.base (L2.CX X.prog X.w) k f (spG T X.K 2 m)) (hr : Room (k + 1) X.A) (ha : DE T X P W a fa) (hb : DE T X P W b fb) (hc : DE T X P W e3 fc) (hd : DE T X P W e4 fd)
    (hm : lastMarks [.Eq, .NotEq, .Eq] [b, e3, e4] = false) : DE T X P W (.Compare a [.Eq, .NotEq, .Eq] [b, e3, e4] pos) (chain3 (fCmpO c m false) (fCmpO c m true) (fCmpO c m false) fa fb fc fd) := by
  obtain ⟨ta, pa, sa⟩ := ha.ex
  obtain ⟨tb, pb, sb⟩ := hb.ex
  obtain ⟨tc, pc, sc⟩ := hc.ex
  obtain ⟨td, pd, sd⟩ := hd.ex
  refine ⟨_, pe_chain3 (op_eqO EF G hr) (op_neO EF G hr) (op_eqO EF G hr) pa pb pc pd hm, fun env r env' h F g σ H Q A post => ?_⟩
  refine soundE_bind sa h A post.exx fun x e1 h1 vx F1 g1 H1 G1 A1 R1 => ?_
  refine soundE_bind sb h1 A1 (post.grow G1).exx fun y e2 h2 vy F2 g2 H2 G2 A2 R2 => ?_
  cases e : fCmpO c m false x y with
  | none => rw [e] at h2; cases h2
  | some z =>
    rw [e] at h2
    refine cmpO_use hcn cf nf e A2 (R1.mono G2.sub _ _) R2 fun k1 F3 g3 H3 hz G3 A3 => ⟨k1, rfl, ?_⟩
    subst hz
    have G03 := (G1.trans G2).trans G3
    cases k1 with
    | false =>
      rw [if_neg Bool.false_ne_true]
      have h2' : dC (.bl false) e2 = some (r, env') := h2
      obtain ⟨rfl, rfl⟩ := dC_eq h2'
      exact post _ F3 g3 H3 G03 A3 rep_bl
    | true =>
      rw [if_pos rfl]
      have h2' : bE fc (fun u => bE (lift (fCmpO c m true y u)) fun z' => match z' with
        | .bl true => bE fd fun v => lift (fCmpO c m false u v)
        | .bl false => dC (.bl false)
        | _ => lift none) e2 = some (r, env') := h2
      refine soundE_bind sc h2' A3 (post.grow G03).exx fun u e4 h4 vu F4 g4 H4 G4 A4 R4 => ?_
      have G04 := G03.trans G4
      have R2' := Rep.mono G4.sub _ _ (Rep.mono G3.sub _ _ R2)
      cases e5 : fCmpO c m true y u with
      | none => rw [e5] at h4; cases h4
      | some z' =>
        rw [e5] at h4
        refine cmpO_use hcn cf nf e5 A4 R2' R4 fun k2 F5 g5 H5 hz G5 A5 => ⟨k2, rfl, ?_⟩
        subst hz
        have G05 := G04.trans G5
        cases k2 with
        | false =>
          rw [if_neg Bool.false_ne_true]
          have h4' : dC (.bl false) e4 = some (r, env') := h4
          obtain ⟨rfl, rfl⟩ := dC_eq h4'
          exact post _ F5 g5 H5 G05 A5 rep_bl
        | true =>
          rw [if_pos rfl]
          have h4' : bE fd (fun v => lift (fCmpO c m false u v)) e4 = some (r, env') := h4
          refine soundE_bind sd h4' A5 (post.grow G05).exx fun v e6 h6 vv F6 g6 H6 G6 A6 R6 => ?_
          obtain ⟨z3, hz3, rfl, rfl⟩ := lift_eq h6
          refine cmpO_use hcn cf nf hz3 A6 (Rep.mono G6.sub _ _ (Rep.mono G5.sub _ _ R4)) R6 fun k3 F7 g7 H7 hz G7 A7 => ?_
          subst hz
          exact post _ F7 g7 H7 (G05.trans (G6.trans G7)) A7 rep_bl
/-! ### a class's constant -/
structure CvOk (K : PySem.W.Frag) (C : Addr) (m : Str) (n : Int) : Prop where
  rd : ClX.CRead K C (.type "type")
  va : ∃ u, ClX.CVal K C (.type "type") m (.int n) u
theorem cvB_ok {K : PySem.W.Frag} {x m : Str} {n : Int} (h : cvB K x m n = true) : CvOk K (He.ga K x) m n := by
  unfold cvB at h
  rw [Bool.and_eq_true] at h
  obtain ⟨h1, h2⟩ := h
  split at h2
  · rename_i i t e
    have q : i = n := by simpa using h2
    subst q
    exact ⟨cread_ok h1, _, e, ⟨t, rfl⟩⟩
  · cases h2
theorem de_cval {x m : Str} {n : Int} {p : Pos} {C : Addr} (hg : Gl X x) (hm : X.mg x = some (.ref C)) (cv : CvOk X.K C m n) (hdb : (x == ("__debug__" : Str)) = false) (hb : attributeBase (.Name x p) m X.env (eval (.Name x p) X.env) = eval (.Name x p) X.env) : DE T X P W (.Attribute (.Name x p) m pos) (dC (.int n)) := by
  obtain ⟨u, hu⟩ := cv.va
  refine ⟨_, ClX.pe_cval (pe_glob (v := .ref C) hg hm rfl hdb) hb, fun env r env' h F g σ H Q A post => ?_⟩
  obtain ⟨rfl, rfl⟩ := dC_eq h
  exact ⟨C, _, _, u, rfl, cv.rd, hu, post _ F g H (Grow.refl _ _ _) A rep_int⟩
end
end DS
/-! DS52: a def called with a new tuple that holds an owned list in its middle; what the def reads of it. -/
namespace DS
open PySem PySem.Spec L2
section
variable {T : Tb} {X : Cx} {P : Nat → Option V} {W : WX} {K : PySem.W.Frag} {F F' F1 H H' H1 : Hp} {g g1 : Nat → List Addr} {env env' : DEnv} {σ : L2.St}
/-- w[i], a plain item of a pinned tuple -/
def dIxP (j i : Nat) : EM := fun env => match env[j]? with
  | some (some (.pin (.tup ds))) => (match ds[i]? with
    | some d => if d.sh = true then some (.ok d, env) else none
    | none => none)
  | _ => none
theorem atI_nat {vs : List V} {i : Nat} {v : V} (h : vs[i]? = some v) : atI vs (i : Int) = some v := by
  have hi : i < vs.length := (List.getElem?_eq_some_iff.mp h).1
  unfold atI
  have : ixN vs.length (i : Int) = some i := by
    unfold ixN
    rw [if_pos (by omega), if_pos (by omega)]
    simp
  rw [this]
  exact h
theorem de_ixP {e : Expr} {j i : Nat} {k} {p pos : Pos} (h : PE X e (tVar j)) (hs : PlainIx (.Constant (.int i) k p)) : DE T X P W (.Subscript e (.Constant (.int i) k p) pos) (dIxP j i) := by
  refine ⟨_, pe_ix ix_seq h pe_int hs, fun env o env' h F g σ H Q A post => ?_⟩
  unfold dIxP at h
  split at h
  · rename_i ds ej
    split at h
    · rename_i d ed
      split at h
      · rename_i sh
        simp only [Option.some.injEq, Prod.mk.injEq] at h
        obtain ⟨rfl, rfl⟩ := h
        obtain ⟨v, h1, h2⟩ := A.at_ j _ ej
        rw [slotO_pin] at h2
        have R1 := h2.1
        simp only [RepO] at R1
        obtain ⟨t, vs, rfl, h3, h4⟩ := R1
        obtain ⟨w, f1, hw, hsub, hr, hl⟩ := tupO_get h4 ed
        exact ⟨_, h1, .inr (.inl ⟨t, vs, i, w, rfl, rfl, (same_tupAt A.sub h3).sq, atI_nat hw, post w F g H (Grow.refl _ _ _) A ((repO_sh sh).mp hr).2⟩)⟩
      · cases h
    · cases h
  · cases h
/-- list(w[i]), an owned list in a pinned tuple -/
def dListP (j i : Nat) : EM := fun env => match env[j]? with
  | some (some (.pin (.tup ds))) => (match ds[i]? with
    | some (.own (.lst xs)) => some (.ok (.lst xs), env)
    | _ => none)
  | _ => none
theorem de_listP {x : Str} {e : Expr} {j i : Nat} {k} {p q qq pos : Pos} (hc : X.calm = true) (hg : Gl X x) (hm : X.mg x = none) (hv : bootBuiltins x = some (.type "list")) (h : PE X e (tVar j)) (hs : PlainIx (.Constant (.int i) k q))
    (hn : x ≠ "__name__") (hdb : (x == ("__debug__" : Str)) = false) (he : starEach [.Subscript e (.Constant (.int i) k q) qq] X.env = (false, eval (.Subscript e (.Constant (.int i) k q) qq) X.env) :: starEach [] X.env) (hpl : (backTo pos (starEach [] X.env)).any (·.1) = false) :
    DE T X P W (.Call (.Name x p) [.Subscript e (.Constant (.int i) k q) qq] [] pos) (dListP j i) := by
  refine ⟨_, pe_callTy (call_listA hc) hg hm hv (pa_cons (pe_ix ix_seq h pe_int hs) pa_nil he) hn hdb he hpl, fun env o env' h F g σ H Q A post => ?_⟩
  unfold dListP at h
  split at h
  · rename_i ds ej
    split at h
    · rename_i xs ed
      simp only [Option.some.injEq, Prod.mk.injEq] at h
      obtain ⟨rfl, rfl⟩ := h
      obtain ⟨v, h1, h2⟩ := A.at_ j _ ej
      rw [slotO_pin] at h2
      have R1 := h2.1
      simp only [RepO] at R1
      obtain ⟨t, vs, rfl, h3, h4⟩ := R1
      obtain ⟨w, f1, hw, hsub, hr, hl⟩ := tupO_get h4 ed
      simp only [RepO] at hr
      obtain ⟨a, us, rfl, hf1, hfa, hha, hrr⟩ := hr
      refine ⟨_, h1, .inr (.inl ⟨t, vs, i, .ref a, rfl, rfl, (same_tupAt A.sub h3).sq, atI_nat hw, ?_⟩)⟩
      refine .inl ⟨a, us, rfl, .inl (SqL.of hha), fun l hl => ?_⟩
      exact post _ _ g _ (grow_laid A.sub hl) (A.laid hl) (rep_newL A.sub hl hrr)
    · cases h
  · cases h
/-- f((a, x, c)), x owned: handed, and back -/
def dCallT (m : List D → Option (R × List D)) (j : Nat) (fa fc : EM) : EM := bE fa fun a => fun e1 => match e1[j]? with
  | some (some (.own _)) => bE fc (fun c => fun env => match env[j]? with
    | some (some (.own (.lst xs))) => (match m [.pin (.tup [a, .own (.lst xs), c])] with
      | some (.ok d, [.tup [a', .own (.lst xs'), c']]) => if (d.sh && (a'.sh && c'.sh)) = true then some (.ok d, env.set j (some (.own (.lst xs')))) else none
      | _ => none)
    | _ => none) e1
  | _ => none
theorem de_callT {k k' : Nat} {x y : Str} {st : Stmt} {ps : List Str} {m : List D → Option (R × List D)} {j : Nat} {ea ec : Expr} {fa fc : EM} {kk} {p q tp pos : Pos} (G : Fn X.prog X.w X.K X.mg X.base k x st ps (spG T X.K 1 m)) (hr : Room k' X.A) (hk : k ≤ k') (hg : Gl X x) (tk : Takes X W)
    (hj : PE X (.Name y q) (tVar j)) (ha : DE T X P W ea fa) (hc : DE T X P W ec fc) (hdb : (x == ("__debug__" : Str)) = false)
    (s1 : starEach [ea, .Name y q, ec] X.env = (false, eval ea X.env) :: starEach [.Name y q, ec] X.env) (s2 : starEach [.Name y q, ec] X.env = (false, eval (.Name y q) X.env) :: starEach [ec] X.env) (s3 : starEach [ec] X.env = (false, eval ec X.env) :: starEach [] X.env)
    (he : starEach [.Tuple [ea, .Name y q, ec] kk tp] X.env = (false, eval (.Tuple [ea, .Name y q, ec] kk tp) X.env) :: starEach [] X.env) (hpl : (backTo pos (starEach [] X.env)).any (·.1) = false) :
    DE T X P W (.Call (.Name x p) [.Tuple [ea, .Name y q, ec] kk tp] [] pos) (dCallT m j fa fc) := by
  obtain ⟨fd, FD, FN, b⟩ := G.ex
  obtain ⟨ta, pa, sa⟩ := ha.ex
  obtain ⟨tc, pc, sc⟩ := hc.ex
  refine ⟨_, pe_callSD FN (room_le hr hk) hg G.gl FD.kp b .nil (fun σ => passAt tk σ) (pa_cons (pe_tup (pa_cons pa (pa_cons hj (pa_cons pc pa_nil s3) s2) s1)) pa_nil he) hdb he hpl, fun env o env' h F g σ H Q A post => ?_⟩
  unfold dCallT at h
  refine soundE_bind sa h A post.exx fun da e1 h1 va F1 g1 H1 G1 A1 R1 => ?_
  split at h1
  · rename_i c0 e1j
    obtain ⟨vx, hvx, _⟩ := A1.at_ j _ e1j
    refine ⟨vx, hvx, ?_⟩
    refine soundE_bind sc h1 A1 (post.grow G1).exx fun dc e2 h2 vc F2 g2 H2 G2 A2 R2 => ?_
    split at h2
    · rename_i xs e2j
      split at h2
      · rename_i d a' xs' c' em
        split at h2
        · rename_i hsh
          rw [Bool.and_eq_true, Bool.and_eq_true] at hsh
          obtain ⟨hd, ha', hc'⟩ := hsh
          simp only [Option.some.injEq, Prod.mk.injEq] at h2
          obtain ⟨rfl, rfl⟩ := h2
          have hjl : j < e2.length := (List.getElem?_eq_some_iff.mp e2j).1
          obtain ⟨v', hv', hsl⟩ := A2.at_ j _ e2j
          rw [hvx] at hv'
          simp only [Option.some.injEq] at hv'
          subst hv'
          rw [slotO_own] at hsl
          have hs0 := hsl
          simp only [RepO] at hs0
          obtain ⟨ax, us, rfl, hgj, hfa, hha, hrr⟩ := hs0
          refine ⟨by show 3 ≤ sizeLine; rw [lim_eq]; omega, fun t ht => ?_⟩
          have G3 : Grow F2 g2 H2 (upd F2 t (.tup [va, .ref ax, vc])) g2 (upd H2 t (.tup [va, .ref ax, vc])) := grow_laid A2.sub ht
          have A3 := A2.laid (o := .tup [va, .ref ax, vc]) ht
          have hat : ax ≠ t := fun q => by rw [q, ht] at hha; cases hha
          have hs1 : RepO T X.K (upd F2 t (.tup [va, .ref ax, vc])) (upd H2 t (.tup [va, .ref ax, vc])) (.own (.lst xs)) (.ref ax) [ax] := by
            rw [hgj] at hsl
            exact repO_keep G3.sub _ _ _ hsl (fun b hb o ho => by
              obtain rfl : b = ax := by simpa using hb
              rw [upd_ne hat]; exact ho) fun b hb => by
              obtain rfl : b = ax := by simpa using hb
              rw [upd_ne hat]; exact hfa
          have R1' := Rep.mono G3.sub _ _ (Rep.mono G2.sub _ _ R1)
          have R2' := Rep.mono G3.sub _ _ R2
          have ht0 : RepO T X.K (upd F2 t (.tup [va, .ref ax, vc])) (upd H2 t (.tup [va, .ref ax, vc])) (.own (.tup [da, .own (.lst xs), dc])) (.ref t) (g2 j) := by
            rw [hgj]
            unfold RepO
            refine ⟨t, [va, .ref ax, vc], rfl, .inl upd_same, ?_⟩
            simp only [TupO]
            exact ⟨va, _, [], [ax], rfl, rfl, fun _ h => (by cases h), (repO_sh R1'.sh).mpr ⟨rfl, R1'⟩, .ref ax, _, [ax], [], rfl, by simp, fun _ _ h => (by cases h), hs1, vc, [], [], [], rfl, rfl, fun _ h => (by cases h), (repO_sh R2'.sh).mpr ⟨rfl, R2'⟩, rfl, rfl⟩
          refine ⟨[.pin (.tup [da, .own (.lst xs), dc])], _, fun i => if i = 0 then g2 j else [], .ok d, [.tup [a', .own (.lst xs'), c']], em, rfl, A3.sub, args_one ht0 Reps.nil, fun u fp F' g' H' G s A' R' n' m' => ?_⟩
          rw [putPins_one (Reps.nil (T := T) (K := X.K) (F := F'))] at A'
          obtain ⟨v0, hv0, hO⟩ := A'.at_ 0 _ rfl
          obtain rfl : v0 = .ref t := by simpa using hv0.symm
          have hO : RepO T X.K F' H' (.own (.tup [a', .own (.lst xs'), c'])) (.ref t) (g' 0) := hO
          unfold RepO at hO
          obtain ⟨t', vs', et, hta, hto⟩ := hO
          cases et
          have hft : F' t = some (.tup [va, .ref ax, vc]) := G.sub _ _ upd_same
          obtain rfl : vs' = [va, .ref ax, vc] := by
            rcases hta with q | ⟨_, q⟩
            · rw [hft] at q; cases q; rfl
            · exact absurd q (by simp)
          simp only [TupO] at hto
          obtain ⟨w1, l1, f1, f2, e1', e2', _, r1, w2, l2, f3, f4, e3', e4', _, r2, w3, l3, f5, f6, e5', e6', _, r3, e7', e8'⟩ := hto
          have k1 := ((repO_sh ha').mp r1).1
          have k3 := ((repO_sh hc').mp r3).1
          subst k1 k3 e8'
          simp only [List.cons.injEq] at e1'
          obtain ⟨rfl, rfl⟩ := e1'
          simp only [List.cons.injEq] at e3'
          obtain ⟨rfl, rfl⟩ := e3'
          have eg : g' 0 = f3 := by rw [e2', e4', e6']; simp
          have A'' : ArgsAt T X.K F' H' [.pin (.lst xs')] [.ref ax] g' := by
            refine ⟨rfl, fun i c e => ?_, A'.dis, fun i e => A'.out i ?_⟩
            · cases i with
              | zero =>
                cases e
                refine ⟨_, rfl, ?_⟩
                show RepO T X.K F' H' (.own (.lst xs')) (.ref ax) (g' 0)
                rw [eg]; exact r2
              | succ i => cases e
            · cases i with
              | zero => cases e
              | succ i => rfl
          have hsl3 : SlotO T X.K P (upd F2 t (.tup [va, .ref ax, vc])) (upd H2 t (.tup [va, .ref ax, vc])) j (.own (.lst xs)) (.ref ax) (g2 j) := by
            rw [slotO_own, hgj]; exact hs1
          obtain ⟨B, G'⟩ := slot_back (w := D.own) (w' := D.own) A3 hvx hjl (fun _ _ _ _ h => h) hsl3 (fun _ _ _ h => h) G s A'' (fun d hd => by cases hd)
          exact post u F' _ H' (((G1.trans G2).trans G3).trans G') B ((repO_sh hd).mp R').2
        · cases h2
      · cases h2
    · cases h2
  · cases h1
end
end DS
/-! DS53: methods with a dict's parameter for the further names; dicts with texts or numbers as keys, plain. -/
namespace DS
open PySem PySem.Spec L2
/-! ### the call -/
def kwDic (kn : List (List Nat)) (zs : List D) : D := .dic false ((kn.zip zs).map fun p => (.str p.1, p.2))
end DS
/-! DS54: a plain dict with texts or numbers as keys; a maker called with a lone star and names. -/
namespace DS
open PySem PySem.Spec L2
/-! ### f(*e, k=e, ..) -/
end DS
/-! DS55: a method with a dict's parameter, the answer plain. -/
namespace DS
open PySem PySem.Spec L2
def callKw (c nk : Nat) (kn : List (List Nat)) (m : List D → Option (R × List D)) (x : D) (zs : List D) : EM := fun env => match x with
  | .ins c' _ => if (decide (c' = c) && decide (zs.length = nk)) = true then (match m [x, kwDic kn zs] with
    | some (.ok d, []) => if d.sh = true then some (.ok d, env) else none
    | _ => none) else none
  | _ => none
def dMethKw (c nk : Nat) (kn : List (List Nat)) (m : List D → Option (R × List D)) (fe : EM) (fk : AM) : EM := bE fe fun x => onC c x (bL fk fun zs => callKw c nk kn m x zs)
end DS
/-! DS56: x in T, x not in T: T a global's written tuple of texts. -/
namespace DS
open PySem PySem.Spec L2
end DS
namespace DS
/-! ### rules by which simp walks -/
section
variable {env : DEnv}
@[simp] theorem ev_runD {n : Nat} {f : SM} {ds : List D} : runD n f ds = fin ds (f (startD n ds)) := rfl
@[simp] theorem ev_fin_nx {ds : List D} : fin ds (some (.nx, env)) = (outsOf ds env).map fun o => (.ok .non, o) := rfl
@[simp] theorem ev_fin_rt {ds : List D} {d : D} : fin ds (some (.rt d, env)) = (outsOf ds env).map fun o => (.ok d, o) := rfl
@[simp] theorem ev_fin_ex {ds : List D} {c : Nat} {fs : List (Nat × D)} : fin ds (some (.ex c fs, env)) = (outsOf ds env).map fun o => (.ex c fs, o) := rfl
@[simp] theorem ev_outs_nil : outsOf [] env = some [] := by cases env <;> rfl
@[simp] theorem ev_outs_pin {c c' : D} {ds : List D} : outsOf (.pin c :: ds) (some (.pin c') :: env) = (outsOf ds env).map (c' :: ·) := rfl
theorem outs_sh {d : D} {ds : List D} {o : Option D} (h : d.sh = true) : outsOf (d :: ds) (o :: env) = outsOf ds env := by
  cases d <;> first | rfl | cases h
@[simp] theorem ev_outs_non {ds : List D} {o : Option D} : outsOf (.non :: ds) (o :: env) = outsOf ds env := rfl
@[simp] theorem ev_outs_bl {b : Bool} {ds : List D} {o : Option D} : outsOf (.bl b :: ds) (o :: env) = outsOf ds env := rfl
@[simp] theorem ev_outs_int {b : Int} {ds : List D} {o : Option D} : outsOf (.int b :: ds) (o :: env) = outsOf ds env := rfl
@[simp] theorem ev_outs_str {b : List Nat} {ds : List D} {o : Option D} : outsOf (.str b :: ds) (o :: env) = outsOf ds env := rfl
@[simp] theorem ev_outs_tup {b : List D} {ds : List D} {o : Option D} : outsOf (.tup b :: ds) (o :: env) = outsOf ds env := rfl
@[simp] theorem ev_outs_lst {b : List D} {ds : List D} {o : Option D} : outsOf (.lst b :: ds) (o :: env) = outsOf ds env := rfl
@[simp] theorem ev_outs_dic {t : Bool} {b : List (D × D)} {ds : List D} {o : Option D} : outsOf (.dic t b :: ds) (o :: env) = outsOf ds env := rfl
@[simp] theorem ev_outs_ins {c : Nat} {b : List (Nat × D)} {ds : List D} {o : Option D} : outsOf (.ins c b :: ds) (o :: env) = outsOf ds env := rfl
@[simp] theorem ev_startD {n : Nat} {ds : List D} : startD n ds = ds.map some ++ List.replicate (n - ds.length) none := rfl
@[simp] theorem ev_seqS {f h : SM} : seqS f h env = match f env with | some (.nx, e) => h e | r => r := rfl
@[simp] theorem ev_nxS : nxS env = some (.nx, env) := rfl
@[simp] theorem ev_bkS : bkS env = some (.bk, env) := rfl
@[simp] theorem ev_ctS : ctS env = some (.ct, env) := rfl
@[simp] theorem ev_retN : retN env = some (.rt .non, env) := rfl
@[simp] theorem ev_bS {fa : EM} {k : D → SM} : bS fa k env = match fa env with | some (.ok x, e) => k x e | some (.ex c fs, e) => some (.ex c fs, e) | none => none := rfl
@[simp] theorem ev_dropS {fa : EM} : dropS fa env = match fa env with | some (.ok x, e) => some (.nx, e) | some (.ex c fs, e) => some (.ex c fs, e) | none => none := rfl
@[simp] theorem ev_retS {fa : EM} : retS fa env = match fa env with | some (.ok x, e) => some (.rt x, e) | some (.ex c fs, e) => some (.ex c fs, e) | none => none := rfl
@[simp] theorem ev_retO {fa : EM} : retO fa env = match fa env with | some (.ok x, e) => some (.rt (.own x), e) | some (.ex c fs, e) => some (.ex c fs, e) | none => none := rfl
@[simp] theorem ev_ifS {c : BM} {f h : SM} : ifS c f h env = match c env with | some (.ok true, e) => f e | some (.ok false, e) => h e | some (.ex c fs, e) => some (.ex c fs, e) | none => none := rfl
@[simp] theorem ev_setS {i : Nat} {fa : EM} : setS i fa env = match fa env with | some (.ok x, e) => toS (putS i x e) | some (.ex c fs, e) => some (.ex c fs, e) | none => none := rfl
@[simp] theorem ev_setO {i : Nat} {fa : EM} : setO i fa env = match fa env with | some (.ok x, e) => toS (putS i (.own x) e) | some (.ex c fs, e) => some (.ex c fs, e) | none => none := rfl
@[simp] theorem ev_toS {e : DEnv} : toS (some e) = some (.nx, e) := rfl
@[simp] theorem ev_putS {i : Nat} {d : D} : putS i d env = if freeSl env i = true then some (env.set i (some d)) else none := rfl
@[simp] theorem ev_freeSl {i : Nat} : freeSl env i = match env[i]? with | some o => npin o | none => false := by
  unfold freeSl
  cases env[i]? with
  | none => rfl
  | some o => cases o with
    | none => rfl
    | some d => cases d <;> rfl
@[simp] theorem np_none : npin none = true := rfl
theorem np_sh {d : D} (h : d.sh = true) : npin (some d) = true := by cases d <;> first | rfl | cases h
@[simp] theorem np_own {d : D} : npin (some (.own d)) = true := rfl
@[simp] theorem np_pin {d : D} : npin (some (.pin d)) = false := rfl
@[simp] theorem np_non : npin (some .non) = true := rfl
@[simp] theorem np_bl {b : Bool} : npin (some (.bl b)) = true := rfl
@[simp] theorem np_int {b : Int} : npin (some (.int b)) = true := rfl
@[simp] theorem np_str {b : List Nat} : npin (some (.str b)) = true := rfl
@[simp] theorem np_tup {b : List D} : npin (some (.tup b)) = true := rfl
@[simp] theorem np_lst {b : List D} : npin (some (.lst b)) = true := rfl
@[simp] theorem np_dic {t : Bool} {b : List (D × D)} : npin (some (.dic t b)) = true := rfl
@[simp] theorem np_ins {c : Nat} {b : List (Nat × D)} : npin (some (.ins c b)) = true := rfl
@[simp] theorem sh_non : D.sh .non = true := rfl
@[simp] theorem sh_bl' {b : Bool} : D.sh (.bl b) = true := rfl
@[simp] theorem sh_int {b : Int} : D.sh (.int b) = true := rfl
@[simp] theorem sh_str {b : List Nat} : D.sh (.str b) = true := rfl
@[simp] theorem sh_tup {b : List D} : D.sh (.tup b) = true := rfl
@[simp] theorem sh_lst {b : List D} : D.sh (.lst b) = true := rfl
@[simp] theorem sh_dic {t : Bool} {b : List (D × D)} : D.sh (.dic t b) = true := rfl
@[simp] theorem sh_ins {c : Nat} {b : List (Nat × D)} : D.sh (.ins c b) = true := rfl
@[simp] theorem sh_own {d : D} : D.sh (.own d) = false := rfl
@[simp] theorem sh_pin {d : D} : D.sh (.pin d) = false := rfl
@[simp] theorem ev_lift {d : D} : lift (some d) env = some (.ok d, env) := rfl
@[simp] theorem ev_liftN : lift none env = none := rfl
@[simp] theorem ev_bE {fa : EM} {k : D → EM} : bE fa k env = match fa env with | some (.ok x, e) => k x e | some (.ex c fs, e) => some (.ex c fs, e) | none => none := rfl
@[simp] theorem ev_bB {fa : EM} {k : D → BM} : bB fa k env = match fa env with | some (.ok x, e) => k x e | some (.ex c fs, e) => some (.ex c fs, e) | none => none := rfl
@[simp] theorem ev_bA {fa : AM} {k : List Ag → EM} : bA fa k env = match fa env with | some (.ok x, e) => k x e | some (.ex c fs, e) => some (.ex c fs, e) | none => none := rfl
@[simp] theorem ev_cB {fa : BM} {k : Bool → EM} : cB fa k env = match fa env with | some (.ok x, e) => k x e | some (.ex c fs, e) => some (.ex c fs, e) | none => none := rfl
@[simp] theorem ev_cBB {fa : BM} {k : Bool → BM} : cBB fa k env = match fa env with | some (.ok x, e) => k x e | some (.ex c fs, e) => some (.ex c fs, e) | none => none := rfl
@[simp] theorem ev_retB {b : Bool} : retB b env = some (.ok b, env) := rfl
@[simp] theorem ev_dVar {i : Nat} : dVar i env = match env[i]? with | some (some d) => if d.sh = true then some (.ok d, env) else none | _ => none := rfl
@[simp] theorem ev_dC {d : D} : dC d env = some (.ok d, env) := rfl
@[simp] theorem ev_dOp {f : D → D → Option D} {fa fb : EM} : dOp f fa fb env = match fa env with | some (.ok x, e) => (match fb e with | some (.ok y, e2) => lift (f x y) e2 | some (.ex c fs, e) => some (.ex c fs, e) | none => none) | some (.ex c fs, e) => some (.ex c fs, e) | none => none := rfl
@[simp] theorem ev_dUn {f : D → Option D} {fa : EM} : dUn f fa env = match fa env with | some (.ok x, e) => lift (f x) e | some (.ex c fs, e) => some (.ex c fs, e) | none => none := rfl
@[simp] theorem ev_toB {f : EM} : toB f env = match f env with | some (.ok (.bl b), e) => some (.ok b, e) | some (.ex c fs, e) => some (.ex c fs, e) | _ => none := by
  unfold toB bB
  cases f env with
  | none => rfl
  | some p =>
    obtain ⟨r, e⟩ := p
    cases r with
    | ok d => cases d <;> rfl
    | ex c fs => rfl
@[simp] theorem ev_truB {f : EM} : truB f env = match f env with | some (.ok d, e) => (match tru d with | some b => some (.ok b, e) | none => none) | some (.ex c fs, e) => some (.ex c fs, e) | none => none := by
  unfold truB bB
  cases f env with
  | none => rfl
  | some p =>
    obtain ⟨r, e⟩ := p
    cases r with
    | ok d => dsimp only; cases tru d <;> rfl
    | ex c fs => rfl
@[simp] theorem ev_notB {f : BM} : notB f env = match f env with | some (.ok b, e) => some (.ok (!b), e) | some (.ex c fs, e) => some (.ex c fs, e) | none => none := rfl
@[simp] theorem ev_andB {f h : BM} : andB f h env = match f env with | some (.ok true, e) => h e | some (.ok false, e) => some (.ok false, e) | some (.ex c fs, e) => some (.ex c fs, e) | none => none := by
  unfold andB cBB
  cases f env with
  | none => rfl
  | some p =>
    obtain ⟨r, e⟩ := p
    cases r with
    | ok d => cases d <;> rfl
    | ex c fs => rfl
@[simp] theorem ev_orB {f h : BM} : orB f h env = match f env with | some (.ok true, e) => some (.ok true, e) | some (.ok false, e) => h e | some (.ex c fs, e) => some (.ex c fs, e) | none => none := by
  unfold orB cBB
  cases f env with
  | none => rfl
  | some p =>
    obtain ⟨r, e⟩ := p
    cases r with
    | ok d => cases d <;> rfl
    | ex c fs => rfl
@[simp] theorem ev_andV {f h : EM} : andV f h env = match f env with | some (.ok x, e) => (match tru x with | some true => h e | some false => some (.ok x, e) | none => none) | some (.ex c fs, e) => some (.ex c fs, e) | none => none := by
  unfold andV bE
  cases f env with
  | none => rfl
  | some p =>
    obtain ⟨r, e⟩ := p
    cases r with
    | ok d =>
      dsimp only
      cases tru d with
      | none => rfl
      | some b => cases b <;> rfl
    | ex c fs => rfl
@[simp] theorem ev_orV {f h : EM} : orV f h env = match f env with | some (.ok x, e) => (match tru x with | some true => some (.ok x, e) | some false => h e | none => none) | some (.ex c fs, e) => some (.ex c fs, e) | none => none := by
  unfold orV bE
  cases f env with
  | none => rfl
  | some p =>
    obtain ⟨r, e⟩ := p
    cases r with
    | ok d =>
      dsimp only
      cases tru d with
      | none => rfl
      | some b => cases b <;> rfl
    | ex c fs => rfl
@[simp] theorem ev_notV {f : EM} : notV f env = match f env with | some (.ok x, e) => (match tru x with | some b => some (.ok (.bl (!b)), e) | none => none) | some (.ex c fs, e) => some (.ex c fs, e) | none => none := by
  unfold notV bE
  cases f env with
  | none => rfl
  | some p =>
    obtain ⟨r, e⟩ := p
    cases r with
    | ok d => dsimp only; cases tru d <;> rfl
    | ex c fs => rfl
@[simp] theorem ev_ifV {c : BM} {f h : EM} : ifV c f h env = match c env with | some (.ok true, e) => f e | some (.ok false, e) => h e | some (.ex c fs, e) => some (.ex c fs, e) | none => none := by
  unfold ifV cB
  cases c env with
  | none => rfl
  | some p =>
    obtain ⟨r, e⟩ := p
    cases r with
    | ok d => cases d <;> rfl
    | ex c fs => rfl
@[simp] theorem ev_chainV {f f' : D → D → Option D} {fa fb fc : EM} : chainV f f' fa fb fc env = match fa env with
    | some (.ok x, e) => (match fb e with
      | some (.ok y, e2) => (match f x y with
        | some (.bl true) => (match fc e2 with | some (.ok w, e3) => lift (f' y w) e3 | some (.ex c fs, e) => some (.ex c fs, e) | none => none)
        | some (.bl false) => some (.ok (.bl false), e2)
        | _ => none)
      | some (.ex c fs, e) => some (.ex c fs, e) | none => none)
    | some (.ex c fs, e) => some (.ex c fs, e) | none => none := by
  unfold chainV bE
  cases fa env with
  | none => rfl
  | some p =>
    obtain ⟨r, e⟩ := p
    cases r with
    | ex c fs => rfl
    | ok x =>
      dsimp only
      cases fb e with
      | none => rfl
      | some p =>
        obtain ⟨r, e2⟩ := p
        cases r with
        | ex c fs => rfl
        | ok y =>
          dsimp only
          cases f x y with
          | none => rfl
          | some z =>
            cases z with
            | bl b => cases b <;> rfl
            | _ => rfl
@[simp] theorem ev_isNonV {f : EM} : isNonV f env = match f env with | some (.ok .non, e) => some (.ok (.bl true), e) | some (.ok _, e) => some (.ok (.bl false), e) | some (.ex c fs, e) => some (.ex c fs, e) | none => none := by
  unfold isNonV bE
  cases f env with
  | none => rfl
  | some p =>
    obtain ⟨r, e⟩ := p
    cases r with
    | ok d => cases d <;> rfl
    | ex c fs => rfl
@[simp] theorem ev_notNonV {f : EM} : notNonV f env = match f env with | some (.ok .non, e) => some (.ok (.bl false), e) | some (.ok _, e) => some (.ok (.bl true), e) | some (.ex c fs, e) => some (.ex c fs, e) | none => none := by
  unfold notNonV bE
  cases f env with
  | none => rfl
  | some p =>
    obtain ⟨r, e⟩ := p
    cases r with
    | ok d => cases d <;> rfl
    | ex c fs => rfl
@[simp] theorem ev_aNil : aNil env = some (.ok [], env) := rfl
@[simp] theorem ev_aCons {fe : EM} {fr : AM} : aCons fe fr env = match fe env with
    | some (.ok x, e) => (match fr e with | some (.ok r, e2) => some (.ok (.sh x :: r), e2) | some (.ex c fs, e) => some (.ex c fs, e) | none => none)
    | some (.ex c fs, e) => some (.ex c fs, e) | none => none := rfl
@[simp] theorem ev_aStar {fe : EM} {fr : AM} : aStar fe fr env = match fe env with
    | some (.ok x, e) => (match itemsOf x with | some xs => (match fr e with | some (.ok r, e2) => some (.ok (xs.map Ag.sh ++ r), e2) | some (.ex c fs, e) => some (.ex c fs, e) | none => none) | none => none)
    | some (.ex c fs, e) => some (.ex c fs, e) | none => none := by
  unfold aStar bAA
  cases fe env with
  | none => rfl
  | some p =>
    obtain ⟨r, e⟩ := p
    cases r with
    | ok d => dsimp only; cases itemsOf d <;> rfl
    | ex c fs => rfl
@[simp] theorem ev_shs_nil : shs [] = some [] := rfl
@[simp] theorem ev_shs {d : D} {r : List Ag} : shs (.sh d :: r) = (shs r).map (d :: ·) := rfl
@[simp] theorem shs_app {xs : List D} {r : List Ag} : shs (xs.map Ag.sh ++ r) = (shs r).map (xs ++ ·) := by
  induction xs with
  | nil => cases h : shs r <;> simp [h]
  | cons x xs ih => simp [ih, Option.map_map, Function.comp_def]
@[simp] theorem ev_bL {fa : AM} {k : List D → EM} : bL fa k env = match fa env with | some (.ok x, e) => (match shs x with | some ds => k ds e | none => none) | some (.ex c fs, e) => some (.ex c fs, e) | none => none := by
  unfold bL bA
  cases fa env with
  | none => rfl
  | some p =>
    obtain ⟨r, e⟩ := p
    cases r with
    | ok d => dsimp only; cases shs d <;> rfl
    | ex c fs => rfl
@[simp] theorem ev_dTup {fa : AM} : dTup fa env = match fa env with | some (.ok x, e) => (match shs x with | some ds => if ds.length ≤ 16777216 then some (.ok (.tup ds), e) else none | none => none) | some (.ex c fs, e) => some (.ex c fs, e) | none => none := by
  unfold dTup
  rw [ev_bL]
  split
  · split
    · rename_i ds _
      by_cases h : ds.length ≤ 16777216 <;> simp [h]
    · rfl
  · rfl
  · rfl
@[simp] theorem ev_dLst {fa : AM} : dLst fa env = match fa env with | some (.ok x, e) => (match shs x with | some ds => if ds.length ≤ 16777216 then some (.ok (.lst ds), e) else none | none => none) | some (.ex c fs, e) => some (.ex c fs, e) | none => none := by
  unfold dLst
  rw [ev_bL]
  split
  · split
    · rename_i ds _
      by_cases h : ds.length ≤ 16777216 <;> simp [h]
    · rfl
  · rfl
  · rfl
@[simp] theorem ev_dCall {f : List D → Option D} {fa : AM} : dCall f fa env = match fa env with | some (.ok x, e) => (match shs x with | some ds => lift (f ds) e | none => none) | some (.ex c fs, e) => some (.ex c fs, e) | none => none := by
  unfold dCall
  rw [ev_bL]
@[simp] theorem ev_dCallN {n : Nat} {m : List D → Option (R × List D)} {fa : AM} : dCallN n m [] fa env = match fa env with
    | some (.ok x, e) => (match shs x with | some ds => if ds.length = n then (match m ds with | some (.ok d, []) => if d.sh = true then some (.ok d, e) else none | some (.ex c fs, []) => some (.ex c fs, e) | _ => none) else none | none => none)
    | some (.ex c fs, e) => some (.ex c fs, e) | none => none := by
  unfold dCallN
  rw [ev_bL]
  split
  · split
    · rename_i ds _
      by_cases h : ds.length = n
      · simp only [callN, List.append_nil, h, if_true, callP]; try rfl
      · simp only [callN, List.append_nil, h, if_false, ev_liftN]
    · rfl
  · rfl
  · rfl
@[simp] theorem ev_dCallNO {n : Nat} {m : List D → Option (R × List D)} {fa : AM} : dCallNO n m fa env = match fa env with
    | some (.ok x, e) => (match shs x with | some ds => if ds.length = n then (match m ds with | some (.ok (.own d), []) => some (.ok d, e) | some (.ex c fs, []) => some (.ex c fs, e) | _ => none) else none | none => none)
    | some (.ex c fs, e) => some (.ex c fs, e) | none => none := by
  unfold dCallNO
  rw [ev_bL]
  split
  · split
    · rename_i ds _
      by_cases h : ds.length = n
      · simp only [callNO, h, if_true, callPO]; try rfl
      · simp only [callNO, h, if_false, ev_liftN]
    · rfl
  · rfl
  · rfl
@[simp] theorem ev_dFrz {f : EM} : dFrz f env = match f env with | some (.ok d, e) => if frzD d = true then some (.ok d, e) else none | some (.ex c fs, e) => some (.ex c fs, e) | none => none := rfl
@[simp] theorem frz_lst {xs : List D} : frzD (.lst xs) = true := rfl
@[simp] theorem frz_dic {t : Bool} {xs : List (D × D)} : frzD (.dic t xs) = true := rfl
@[simp] theorem frz_ins {c : Nat} {xs : List (Nat × D)} : frzD (.ins c xs) = xs.all fun p => p.2.sh := rfl
@[simp] theorem ev_dVarF {i : Nat} : dVarF i env = match env[i]? with | some (some (.own d)) => if frzD d = true then some (.ok d, env.set i (some d)) else none | some (some d) => if d.sh = true then some (.ok d, env) else none | _ => none := rfl
@[simp] theorem ev_retV {i : Nat} : retV i env = match env[i]? with | some (some (.own d)) => some (.rt (.own d), env.set i none) | some (some d) => if d.sh = true then some (.rt d, env) else none | _ => none := rfl
@[simp] theorem ev_asgS {fe : EM} {gm : GM} : asgS fe gm env = match fe env with | some (.ok d, e) => toS (gm d e) | some (.ex c fs, e) => some (.ex c fs, e) | none => none := rfl
@[simp] theorem ev_gmName {i : Nat} {d : D} : gmName i d env = putS i d env := rfl
@[simp] theorem ev_gmTup {f : List D → DEnv → Option DEnv} {xs : List D} : gmTup f (.tup xs) env = f xs env := rfl
@[simp] theorem ev_gmNil : gmNil [] env = some env := rfl
@[simp] theorem ev_gmCons {f : GM} {h : List D → DEnv → Option DEnv} {d : D} {r : List D} : gmCons f h (d :: r) env = match f d env with | some e => h r e | none => none := rfl
@[simp] theorem ev_forS {im : IM} {gm : GM} {body : SM} : forS im gm body env = match im env with | some (.ok xs, e) => forM gm body xs e | some (.ex c fs, e) => some (.ex c fs, e) | none => none := rfl
@[simp] theorem ev_liftI {xs : List D} : liftI (some xs) env = some (.ok xs, env) := rfl
@[simp] theorem ev_bIE {fa : EM} {k : D → IM} : bIE fa k env = match fa env with | some (.ok x, e) => k x e | some (.ex c fs, e) => some (.ex c fs, e) | none => none := rfl
@[simp] theorem ev_bIA {fa : AM} {k : List D → IM} : bIA fa k env = match fa env with | some (.ok x, e) => (match shs x with | some ds => k ds e | none => none) | some (.ex c fs, e) => some (.ex c fs, e) | none => none := rfl
@[simp] theorem ev_iSeq {fa : EM} : iSeq fa env = match fa env with | some (.ok x, e) => liftI (seqItems x) e | some (.ex c fs, e) => some (.ex c fs, e) | none => none := rfl
@[simp] theorem ev_seq_lst {xs : List D} : seqItems (.lst xs) = some xs := rfl
@[simp] theorem ev_seq_tup {xs : List D} : seqItems (.tup xs) = some xs := rfl
@[simp] theorem ev_seq_str {xs : List Nat} : seqItems (.str xs) = some (xs.map fun c => .str [c]) := rfl
@[simp] theorem ev_items_lst {xs : List D} : itemsOf (.lst xs) = some xs := rfl
@[simp] theorem ev_items_tup {xs : List D} : itemsOf (.tup xs) = some xs := rfl
@[simp] theorem ev_iRange1 {fa : AM} : iRange1 fa env = match fa env with
    | some (.ok x, e) => (match shs x with | some [.int j] => if big62 j = true then some (.ok (rangeD 0 j.toNat), e) else none | _ => none)
    | some (.ex c fs, e) => some (.ex c fs, e) | none => none := by
  unfold iRange1
  rw [ev_bIA]
  split
  · split
    · rename_i ds hd
      rw [hd]
      rcases ds with _ | ⟨d, _ | ⟨_, _⟩⟩
      · rfl
      · cases d <;> try rfl
        rename_i j
        by_cases h : big62 j = true <;> simp [h, liftI]
      · cases d <;> rfl
    · rename_i hd
      rw [hd]
  · rfl
  · rfl
@[simp] theorem ev_iRange2 {fa : AM} : iRange2 fa env = match fa env with
    | some (.ok x, e) => (match shs x with | some [.int i, .int j] => if (big62 i && big62 j) = true then some (.ok (rangeD i (j - i).toNat), e) else none | _ => none)
    | some (.ex c fs, e) => some (.ex c fs, e) | none => none := by
  unfold iRange2
  rw [ev_bIA]
  split
  · split
    · rename_i ds hd
      rw [hd]
      rcases ds with _ | ⟨d, _ | ⟨d2, _ | ⟨_, _⟩⟩⟩
      · rfl
      · cases d <;> rfl
      · cases d <;> cases d2 <;> try rfl
        rename_i i j
        by_cases h : (big62 i && big62 j) = true <;> simp [h, liftI]
      · cases d <;> cases d2 <;> rfl
    · rename_i hd
      rw [hd]
  · rfl
  · rfl
@[simp] theorem ev_dSlice {fe : EM} {fl fh : Option EM} : dSlice fe fl fh env = match fe env with | some (.ok x, e) => optI fl (fun lo => optI fh fun hi => lift (sliceD lo hi x)) e | some (.ex c fs, e) => some (.ex c fs, e) | none => none := rfl
@[simp] theorem ev_optN {k : Option Int → EM} : optI none k env = k none env := rfl
@[simp] theorem ev_optS {f : EM} {k : Option Int → EM} : optI (some f) k env = match f env with | some (.ok (.int i), e) => k (some i) e | some (.ex c fs, e) => some (.ex c fs, e) | _ => none := by
  show bE f _ env = _
  unfold bE
  cases f env with
  | none => rfl
  | some p =>
    obtain ⟨r, e⟩ := p
    cases r with
    | ok d => cases d <;> rfl
    | ex c fs => rfl
@[simp] theorem ev_altE {f h : EM} : altE f h env = match f env with | some r => some r | none => h env := rfl
@[simp] theorem ev_isiD {t : KT → Bool} {x : D} : isiD t x = (kindOf x).map fun k => .bl (t k) := rfl
@[simp] theorem ev_isiT {t : List (KT → Bool)} {x : D} : isiT t x = (kindOf x).map fun k => .bl (t.any fun f => f k) := rfl
@[simp] theorem kd_non : kindOf .non = some (.b .non) := rfl
@[simp] theorem kd_bl {b : Bool} : kindOf (.bl b) = some (.b .bl) := rfl
@[simp] theorem kd_int {b : Int} : kindOf (.int b) = some (.b .int) := rfl
@[simp] theorem kd_str {b : List Nat} : kindOf (.str b) = some (.b .str) := rfl
@[simp] theorem kd_tup {b : List D} : kindOf (.tup b) = some (.b .tup) := rfl
@[simp] theorem kd_lst {b : List D} : kindOf (.lst b) = some (.b .lst) := rfl
@[simp] theorem kd_dic {t : Bool} {b : List (D × D)} : kindOf (.dic t b) = some (.b .dic) := rfl
@[simp] theorem kd_ins {c : Nat} {b : List (Nat × D)} : kindOf (.ins c b) = some (.o c) := rfl
@[simp] theorem tab_bb {n s : BT} : tabB n (.b s) = (s.cd == n.cd || (s.cd == 1 && n.cd == 2)) := rfl
@[simp] theorem tab_bo {n : BT} {c : Nat} : tabB n (.o c) = false := rfl
@[simp] theorem tab_ob {l : List Nat} {s : BT} : tabO l (.b s) = false := rfl
@[simp] theorem tab_oo {l : List Nat} {c : Nat} : tabO l (.o c) = l.contains c := rfl
@[simp] theorem cd0 : BT.cd .non = 0 := rfl
@[simp] theorem cd1 : BT.cd .bl = 1 := rfl
@[simp] theorem cd2 : BT.cd .int = 2 := rfl
@[simp] theorem cd3 : BT.cd .str = 3 := rfl
@[simp] theorem cd4 : BT.cd .tup = 4 := rfl
@[simp] theorem cd5 : BT.cd .lst = 5 := rfl
@[simp] theorem cd6 : BT.cd .dic = 6 := rfl
@[simp] theorem tru_non : tru .non = some false := rfl
@[simp] theorem tru_bl {b : Bool} : tru (.bl b) = some b := rfl
@[simp] theorem tru_int {i : Int} : tru (.int i) = some (i != 0) := rfl
@[simp] theorem tru_str {x : List Nat} : tru (.str x) = some (!x.isEmpty) := rfl
@[simp] theorem tru_lst {x : List D} : tru (.lst x) = some (!x.isEmpty) := rfl
@[simp] theorem tru_tup {x : List D} : tru (.tup x) = some (!x.isEmpty) := rfl
@[simp] theorem len_str {x : List Nat} : fLen [.str x] = some (.int x.length) := rfl
@[simp] theorem len_lst {x : List D} : fLen [.lst x] = some (.int x.length) := rfl
@[simp] theorem len_tup {x : List D} : fLen [.tup x] = some (.int x.length) := rfl
@[simp] theorem o_sub {i j : Int} : oSub (.int i) (.int j) = some (.int (i - j)) := rfl
@[simp] theorem o_lt {i j : Int} : oLt (.int i) (.int j) = some (.bl (decide (i < j))) := rfl
@[simp] theorem o_le {i j : Int} : oLe (.int i) (.int j) = some (.bl (decide (i ≤ j))) := rfl
@[simp] theorem o_gt {i j : Int} : oGt (.int i) (.int j) = some (.bl (decide (j < i))) := rfl
@[simp] theorem o_ge {i j : Int} : oGe (.int i) (.int j) = some (.bl (decide (j ≤ i))) := rfl
@[simp] theorem o_mod {i j : Int} : oMod (.int i) (.int j) = if 0 < j then some (.int (i % j)) else none := by
  unfold oMod oI; simp
@[simp] theorem o_div {i j : Int} : oDiv (.int i) (.int j) = if (decide (0 < j) && ltI 1073741824 j) = true then some (.int (i / j)) else none := rfl
@[simp] theorem o_neg {i : Int} : oNeg (.int i) = some (.int (-i)) := rfl
@[simp] theorem o_addI {i j : Int} : oAdd (.int i) (.int j) = some (.int (i + j)) := rfl
@[simp] theorem o_addS {a b : List Nat} : oAdd (.str a) (.str b) = if a.length + b.length ≤ 16777216 then some (.str (a ++ b)) else none := rfl
@[simp] theorem o_addL {a b : List D} : oAdd (.lst a) (.lst b) = if a.length + b.length ≤ 16777216 then some (.lst (a ++ b)) else none := rfl
@[simp] theorem o_addT {a b : List D} : oAdd (.tup a) (.tup b) = if a.length + b.length ≤ 16777216 then some (.tup (a ++ b)) else none := rfl
@[simp] theorem o_isB {a b : Bool} : oIsB (.bl a) (.bl b) = some (.bl (a == b)) := rfl
@[simp] theorem o_notB {a b : Bool} : oNotB (.bl a) (.bl b) = some (.bl (!(a == b))) := rfl
@[simp] theorem o_eqI {i j : Int} : oEq (.int i) (.int j) = some (.bl (i == j)) := rfl
@[simp] theorem o_neI {i j : Int} : oNe (.int i) (.int j) = some (.bl (!(i == j))) := rfl
@[simp] theorem o_eqS {i j : List Nat} : oEq (.str i) (.str j) = some (.bl (i == j)) := rfl
@[simp] theorem o_neS {i j : List Nat} : oNe (.str i) (.str j) = some (.bl (!(i == j))) := rfl
@[simp] theorem o_eqB {i j : Bool} : oEq (.bl i) (.bl j) = some (.bl (i == j)) := rfl
@[simp] theorem o_neB {i j : Bool} : oNe (.bl i) (.bl j) = some (.bl (!(i == j))) := rfl
@[simp] theorem o_eqNI {j : Int} : oEq .non (.int j) = some (.bl false) := rfl
@[simp] theorem o_eqIN {j : Int} : oEq (.int j) .non = some (.bl false) := rfl
@[simp] theorem o_inS {z : List Nat} {c : Nat} : oIn (.str [c]) (.str z) = some (.bl (z.contains c)) := rfl
@[simp] theorem o_ixL {xs : List D} {i : Int} : oIx (.lst xs) (.int i) = atD xs i := rfl
@[simp] theorem o_ixT {xs : List D} {i : Int} : oIx (.tup xs) (.int i) = atD xs i := rfl
@[simp] theorem o_ixS {xs : List Nat} {i : Int} : oIx (.str xs) (.int i) = (atD xs i).map fun c => .str [c] := rfl
theorem atD_nat {α : Type} (xs : List α) (k : Nat) : atD xs (k : Int) = xs[k]? := by
  unfold atD ixD
  by_cases h : k < xs.length
  · simp [h]
  · have : ¬ ((k : Int) < xs.length) := by omega
    simp [this]; omega
@[simp] theorem atD_0 {α : Type} (xs : List α) : atD xs 0 = xs[0]? := atD_nat xs 0
@[simp] theorem atD_1 {α : Type} (xs : List α) : atD xs 1 = xs[1]? := atD_nat xs 1
@[simp] theorem atD_2 {α : Type} (xs : List α) : atD xs 2 = xs[2]? := atD_nat xs 2
@[simp] theorem atD_3 {α : Type} (xs : List α) : atD xs 3 = xs[3]? := atD_nat xs 3
@[simp] theorem atD_4 {α : Type} (xs : List α) : atD xs 4 = xs[4]? := atD_nat xs 4
@[simp] theorem listA_lst {xs : List D} : fListA [.lst xs] = some (.lst xs) := rfl
@[simp] theorem listA_tup {xs : List D} : fListA [.tup xs] = some (.lst xs) := rfl
@[simp] theorem fInt_int {i : Int} : fInt [.int i] = some (.int i) := rfl
@[simp] theorem ev_slIns {j : Nat} : slIns j env = match env[j]? with | some (some (.own (.ins c fs))) => some (c, fs) | some (some (.pin (.ins c fs))) => some (c, fs) | _ => none := rfl
@[simp] theorem ev_dFldS {j i : Nat} {al : List Nat} : dFldS j al i env = match slIns j env with | some (c, fs) => if al.contains c = true then (match fs.lookup i with | some d => if d.sh = true then some (.ok d, env) else none | none => none) else none | none => none := rfl
@[simp] theorem ev_fldS {j i : Nat} {al : List Nat} {fe : EM} : fldS j al i fe env = match fe env with | some (.ok d, e) => (match slIns j e with | some (c, fs) => if (al.contains c && decide (fs.length < 1000)) = true then toS (slInsPut j i d e) else none | none => none) | some (.ex c fs, e) => some (.ex c fs, e) | none => none := rfl
@[simp] theorem ev_slInsPut {j i : Nat} {d : D} : slInsPut j i d env = match env[j]? with | some (some (.own (.ins c fs))) => some (env.set j (some (.own (.ins c (putFD i d fs))))) | some (some (.pin (.ins c fs))) => some (env.set j (some (.pin (.ins c (putFD i d fs))))) | _ => none := rfl
@[simp] theorem putFD_nil {i : Nat} {d : D} : putFD i d [] = [(i, d)] := rfl
@[simp] theorem putFD_cons {i j : Nat} {c d : D} {r : List (Nat × D)} : putFD i d ((j, c) :: r) = if j = i then (j, d) :: r else (j, c) :: putFD i d r := rfl
@[simp] theorem ev_oFld {al : List Nat} {i c : Nat} {fs : List (Nat × D)} : oFld al i (.ins c fs) = if al.contains c = true then fs.lookup i else none := rfl
@[simp] theorem ev_slLst {j : Nat} : slLst j env = match env[j]? with | some (some (.own (.lst xs))) => some xs | some (some (.pin (.lst xs))) => some xs | _ => none := rfl
@[simp] theorem ev_slPut {j : Nat} {xs : List D} : slPut j xs env = match env[j]? with | some (some (.own (.lst _))) => some (env.set j (some (.own (.lst xs)))) | some (some (.pin (.lst _))) => some (env.set j (some (.pin (.lst xs)))) | _ => none := rfl
@[simp] theorem ev_dIxS {j : Nat} {fe : EM} : dIxS j fe env = if (slLst j env).isSome = true then (match fe env with | some (.ok x, e) => (match slLst j e, x with | some xs, .int n => lift (atD xs n) e | _, _ => none) | some (.ex c fs, e) => some (.ex c fs, e) | none => none) else none := rfl
@[simp] theorem ev_lenS {j : Nat} : lenS j env = match slLst j env with | some xs => some (.ok (.int xs.length), env) | none => none := rfl
@[simp] theorem ev_appS {j : Nat} {fe : EM} : appS j fe env = match slLst j env with | none => none | some _ => (match fe env with | some (.ok d, e) => (match slLst j e with | some xs => if xs.length < 16777216 then toS (slPut j (xs ++ [d]) e) else none | _ => none) | some (.ex c fs, e) => some (.ex c fs, e) | none => none) := rfl
@[simp] theorem ev_stoS {j : Nat} {fv fi : EM} : stoS j fv fi env = match fv env with
    | some (.ok d, e) => (match slLst j e with | none => none | some _ => (match fi e with | some (.ok i, e2) => (match slLst j e2, i with | some xs, .int n => (match ixD xs.length n with | some k => toS (slPut j (xs.set k d) e2) | none => none) | _, _ => none) | some (.ex c fs, e) => some (.ex c fs, e) | none => none))
    | some (.ex c fs, e) => some (.ex c fs, e) | none => none := rfl
@[simp] theorem ev_dMethS {j c n : Nat} {m : List D → Option (R × List D)} {fa : AM} : dMethS j c n m fa env = onS j c (bL fa fun ds => callS0 n m j ds) env := rfl
@[simp] theorem ev_dMethSO {j c n : Nat} {m : List D → Option (R × List D)} {fa : AM} : dMethSO j c n m fa env = onS j c (bL fa fun ds => callS0O n m j ds) env := rfl
@[simp] theorem ev_onS {j c : Nat} {f : EM} : onS j c f env = match slIns j env with | some (c', _) => if c' = c then f env else none | none => none := rfl
@[simp] theorem ev_callS0 {n j : Nat} {m : List D → Option (R × List D)} {ds : List D} : callS0 n m j ds env = if ds.length + 1 = n then (match env[j]? with
  | some (some (.own c)) => (match m (.pin c :: ds) with
    | some (.ok d, [c']) => if d.sh = true then some (.ok d, env.set j (some (.own c'))) else none
    | _ => none)
  | some (some (.pin c)) => (match m (.pin c :: ds) with
    | some (.ok d, [c']) => if d.sh = true then some (.ok d, env.set j (some (.pin c'))) else none
    | _ => none)
  | _ => none) else none := rfl
@[simp] theorem ev_onC {c : Nat} {x : D} {f : EM} : onC c x f env = if isC c x = true then f env else none := rfl
@[simp] theorem ev_isC {c c' : Nat} {fs : List (Nat × D)} : isC c (.ins c' fs) = decide (c' = c) := rfl
@[simp] theorem ev_callM {c n c' : Nat} {m : List D → Option (R × List D)} {fs : List (Nat × D)} {ds : List D} : callM c n m (.ins c' fs) ds env = if (decide (c' = c) && decide (ds.length + 1 = n)) = true then (match m (.ins c' fs :: ds) with | some (.ok d, []) => if d.sh = true then some (.ok d, env) else none | _ => none) else none := rfl
@[simp] theorem ev_callMO {c n c' : Nat} {m : List D → Option (R × List D)} {fs : List (Nat × D)} {ds : List D} : callMO c n m (.ins c' fs) ds env = if (decide (c' = c) && decide (ds.length + 1 = n)) = true then (match m (.ins c' fs :: ds) with | some (.ok (.own d), []) => some (.ok d, env) | _ => none) else none := rfl
@[simp] theorem ev_dMeth {c n : Nat} {m : List D → Option (R × List D)} {fe : EM} {fa : AM} : dMeth c n m fe fa env = match fe env with | some (.ok x, e) => onC c x (bL fa fun ds => callM c n m x ds) e | some (.ex c fs, e) => some (.ex c fs, e) | none => none := rfl
@[simp] theorem ev_dMethO {c n : Nat} {m : List D → Option (R × List D)} {fe : EM} {fa : AM} : dMethO c n m fe fa env = match fe env with | some (.ok x, e) => onC c x (bL fa fun ds => callMO c n m x ds) e | some (.ex c fs, e) => some (.ex c fs, e) | none => none := rfl
@[simp] theorem ev_dProp {c : Nat} {m : List D → Option (R × List D)} {fe : EM} : dProp c m fe env = match fe env with | some (.ok x, e) => onC c x (callM c 1 m x []) e | some (.ex c fs, e) => some (.ex c fs, e) | none => none := rfl
@[simp] theorem ev_dMakeA {c n n2 : Nat} {pd : List D → List D} {m : List D → Option (R × List D)} {fa fk : AM} : dMakeA c n n2 pd m fa fk env = bL fa (fun ds => bL fk fun zs => fun env => if (decide (ds.length ≤ 16777216) && (decide (zs.length = n) && decide ((pd zs).length = n2))) = true then (match m (.pin (.ins c []) :: (pd zs ++ [.tup ds])) with
  | some (.ok .non, [s]) => some (.ok s, env)
  | _ => none) else none) env := rfl
@[simp] theorem pxD_nil {ds : List D} : pxD [] ds = [] := rfl
@[simp] theorem pxD_cons {i : Nat} {ix : List Nat} {ds : List D} : pxD (i :: ix) ds = ds.getD i .non :: pxD ix ds := rfl
@[simp] theorem ev_xNil : xNil env = some (.ok [], env) := rfl
@[simp] theorem ev_xCons {fe : EM} {fr : XM} : xCons fe fr env = match fe env with | some (.ok x, e) => (match fr e with | some (.ok r, e2) => some (.ok (.sh x :: r), e2) | some (.ex c fs, e) => some (.ex c fs, e) | none => none) | some (.ex c fs, e) => some (.ex c fs, e) | none => none := rfl
@[simp] theorem ev_xOwn {fe : EM} {fr : XM} : xOwn fe fr env = match fe env with | some (.ok x, e) => (match fr e with | some (.ok r, e2) => some (.ok (.ow x :: r), e2) | some (.ex c fs, e) => some (.ex c fs, e) | none => none) | some (.ex c fs, e) => some (.ex c fs, e) | none => none := rfl
@[simp] theorem putXs_nil : putXs [] [] env = some env := rfl
@[simp] theorem putXs_sh {i : Nat} {is : List Nat} {d : D} {r : List Px} : putXs (i :: is) (.sh d :: r) env = match putS i d env with | some e => putXs is r e | none => none := rfl
@[simp] theorem putXs_ow {i : Nat} {is : List Nat} {d : D} {r : List Px} : putXs (i :: is) (.ow d :: r) env = match putS i (.own d) env with | some e => putXs is r e | none => none := rfl
@[simp] theorem ev_parX {is : List Nat} {fx : XM} : parX is fx env = match fx env with | some (.ok as, e) => toS (putXs is as e) | some (.ex c fs, e) => some (.ex c fs, e) | none => none := rfl
@[simp] theorem ev_iEnumAD {fa : AM} : iEnumAD fa env = match fa env with | some (.ok x, e) => (match shs x with | some ds => liftI (match ds with | [.lst xs] => some (enumD xs) | [.tup xs] => some (enumD xs) | _ => none) e | none => none) | some (.ex c fs, e) => some (.ex c fs, e) | none => none := rfl
@[simp] theorem o_mulI {i j : Int} : oMulA (.int i) (.int j) = if (absI i || absI j) = true then some (.int (i * j)) else none := by
  show (oMulI (.int i) (.int j)).or (oRep (.int i) (.int j)) = _
  have e : oRep (.int i) (.int j) = none := rfl
  rw [e, Option.or_none]
  rfl
@[simp] theorem o_mulL {xs : List D} {k : Int} : oMulA (.lst xs) (.int k) = oRep (.lst xs) (.int k) := rfl
@[simp] theorem ev_needS {j : Nat} {f : EM} : needS j f env = match env[j]? with | some (some _) => f env | _ => none := rfl
@[simp] theorem ev_dCallS {n j : Nat} {m : List D → Option (R × List D)} {fr : AM} : dCallS n m [] j fr env = match fr env with | some (.ok x, e) => (match shs x with | some ds => callS n m j ds e | none => none) | some (.ex c fs, e) => some (.ex c fs, e) | none => none := by
  unfold dCallS
  rw [ev_bL]
  split
  · split
    · rw [List.append_nil]
    · rfl
  · rfl
  · rfl
@[simp] theorem ev_callS {n j : Nat} {m : List D → Option (R × List D)} {ds : List D} : callS n m j ds env = if ds.length + 1 = n then (match env[j]? with
  | some (some (.own c)) => (match m (.pin c :: ds) with
    | some (.ok d, [c']) => if d.sh = true then some (.ok d, env.set j (some (.own c'))) else none
    | some (.ex x fs, [c']) => some (.ex x fs, env.set j (some (.own c')))
    | _ => none)
  | some (some (.pin c)) => (match m (.pin c :: ds) with
    | some (.ok d, [c']) => if d.sh = true then some (.ok d, env.set j (some (.pin c'))) else none
    | some (.ex x fs, [c']) => some (.ex x fs, env.set j (some (.pin c')))
    | _ => none)
  | _ => none) else none := rfl
@[simp] theorem ev_aSlot {j : Nat} {fr : AM} : aSlot j fr env = match env[j]? with | some (some _) => (match fr env with | some (.ok r, e2) => some (.ok (.sl j :: r), e2) | some (.ex c fs, e) => some (.ex c fs, e) | none => none) | _ => none := rfl
@[simp] theorem ev_dCallB {n : Nat} {m : List D → Option (R × List D)} {fa : AM} : dCallB n m fa env = match fa env with | some (.ok as, e) => callB n m as e | some (.ex c fs, e) => some (.ex c fs, e) | none => none := rfl
@[simp] theorem ev_callB {n : Nat} {m : List D → Option (R × List D)} {as : List Ag} : callB n m as env = match lent env as with
  | some ds => if ds.length = n then (match m ds with
    | some (.ok d, []) => if scal d = true then some (.ok d, env) else none
    | _ => none) else none
  | none => none := rfl
@[simp] theorem lent_nil : lent env [] = some [] := rfl
@[simp] theorem lent_sh {d : D} {r : List Ag} : lent env (.sh d :: r) = (lent env r).map (d :: ·) := rfl
@[simp] theorem lent_sl {j : Nat} {r : List Ag} : lent env (.sl j :: r) = match env[j]? with | some (some (.own d)) => if frzD d = true then (lent env r).map (d :: ·) else none | _ => none := rfl
@[simp] theorem scal_bl {b : Bool} : scal (.bl b) = true := rfl
theorem big62_of {i : Int} (h1 : -4611686018427387904 ≤ i) (h2 : i < 4611686018427387904) : big62 i = true := by
  unfold big62
  rw [Bool.and_eq_true]
  exact ⟨geI_iff.mpr h1, ltI_iff.mpr h2⟩
/-! ### DS35..37 -/
@[simp] theorem ev_starM {n : Nat} {m : List D → Option (R × List D)} {ds : List D} : starM n m ds env = if (decide (n ≤ ds.length) && decide (ds.length ≤ 16777216)) = true then (match m (ds.take n ++ [.tup (ds.drop n)]) with | some (.ok d, []) => if d.sh = true then some (.ok d, env) else none | _ => none) else none := rfl
@[simp] theorem ev_take0 {α : Type} {l : List α} : l.take 0 = [] := rfl
@[simp] theorem ev_take1 {α : Type} {a : α} {l : List α} : (a :: l).take 1 = [a] := rfl
@[simp] theorem ev_drop0 {α : Type} {l : List α} : l.drop 0 = l := rfl
@[simp] theorem ev_drop1 {α : Type} {a : α} {l : List α} : (a :: l).drop 1 = l := rfl
@[simp] theorem ev_dCallStar {n : Nat} {m : List D → Option (R × List D)} {fa : AM} : dCallStar n m fa env = bL fa (fun ds => starM n m ds) env := rfl
@[simp] theorem ev_dMethStar {c n : Nat} {m : List D → Option (R × List D)} {fe : EM} {fa : AM} : dMethStar c n m fe fa env = match fe env with | some (.ok x, e) => onC c x (bL fa fun ds => starM n m (x :: ds)) e | some (.ex c fs, e) => some (.ex c fs, e) | none => none := rfl
@[simp] theorem ev_dMakeN {c nk n2 nv : Nat} {ix : List Nat} {m : List D → Option (R × List D)} {fa fk : AM} : dMakeN c nk n2 nv ix m fa fk env = bL fa (fun ds => bL fk fun zs => fun env => if (decide (ds.length + 1 = nv) && (decide (zs.length = nk) && decide ((pxD ix zs).length = n2))) = true then (match m (.pin (.ins c []) :: (ds ++ pxD ix zs)) with
  | some (.ok .non, [s]) => some (.ok s, env)
  | _ => none) else none) env := rfl
@[simp] theorem ev_isk_int {i : Int} : isk (.int i) = true := rfl
@[simp] theorem ev_isk_str {x : List Nat} : isk (.str x) = true := rfl
@[simp] theorem ev_keyT {xs : List D} : keyT (.tup xs) = if (decide (2 ≤ xs.length) && xs.all isk) = true then some xs else none := rfl
@[simp] theorem ev_slDic {j : Nat} : slDic j env = match env[j]? with | some (some (.own (.dic true kvs))) => some kvs | _ => none := rfl
@[simp] theorem ev_slPutD {j : Nat} {kvs : List (D × D)} : slPutD j kvs env = match env[j]? with | some (some (.own (.dic true _))) => some (env.set j (some (.own (.dic true kvs)))) | _ => none := rfl
@[simp] theorem ev_dInS {j : Nat} {fi : EM} : dInS j fi env = match fi env with | some (.ok d, e) => (match keyT d, slDic j e with | some ks, some kvs => some (.ok (.bl (getT kvs ks).isSome), e) | _, _ => none) | some (.ex c fs, e) => some (.ex c fs, e) | none => none := rfl
@[simp] theorem ev_dPutS {j : Nat} {fv fi : EM} : dPutS j fv fi env = match fv env with
    | some (.ok d, e) => (match slDic j e with | none => none | some _ => (match fi e with | some (.ok i, e2) => (match keyT i, slDic j e2 with | some ks, some kvs => if kvs.length < 16777216 then toS (slPutD j (putT kvs ks d) e2) else none | _, _ => none) | some (.ex c fs, e) => some (.ex c fs, e) | none => none))
    | some (.ex c fs, e) => some (.ex c fs, e) | none => none := rfl
@[simp] theorem ev_dicOf {kvs : List (D × D)} : dicOf (.dic true kvs) = some kvs := rfl
@[simp] theorem ev_dGet2P {fo fi fz : EM} : dGet2P fo fi fz env = match fo env with
    | some (.ok x, e) => (match dicOf x with | none => none | some kvs => (match fi e with | some (.ok y, e) => (match fz e with | some (.ok z, e) => lift (match keyT y with | some ks => some ((getT kvs ks).getD z) | _ => none) e | some (.ex c fs, e) => some (.ex c fs, e) | none => none) | some (.ex c fs, e) => some (.ex c fs, e) | none => none))
    | some (.ex c fs, e) => some (.ex c fs, e) | none => none := by
  unfold dGet2P bE
  cases fo env with
  | none => rfl
  | some p => rcases p with ⟨_ | _, _⟩ <;> first | rfl | (dsimp only; cases dicOf _ <;> rfl)
@[simp] theorem ev_aStarVals {fo : EM} {fr : AM} : aStarVals fo fr env = match fo env with
    | some (.ok x, e) => (match dicOf x with | none => none | some kvs => mapA (fun ys => (kvs.map fun p => Ag.sh p.2) ++ ys) fr e)
    | some (.ex c fs, e) => some (.ex c fs, e) | none => none := by
  unfold aStarVals bAA
  cases fo env with
  | none => rfl
  | some p => rcases p with ⟨_ | _, _⟩ <;> first | rfl | (dsimp only; cases dicOf _ <;> rfl)
@[simp] theorem ev_clrS {j : Nat} : clrS j env = match slLst j env with | none => none | some _ => toS (slPut j [] env) := rfl
@[simp] theorem ev_clrT {f : EM} : clrT f env = match f env with | some (.ok (.lst _), e) => some (.nx, e) | _ => none := rfl
end
end DS
namespace DS
def sm__law_turned : SM := (retS (dOp oAdd (dSlice (dVar 0) (some (dVar 1)) none) (dSlice (dVar 0) none (some (dVar 1)))))
def m__law_turned : List D → Option (R × List D) := runD 2 sm__law_turned
def sm__law_drawn_wheel : SM := (seqS (setS 3 (dLc (iRange1 (aCons (dVar 2) aNil)) (gmName 5) (retB true) (needS 0 (dCallS 2 m_marks [] 0 (aCons (dVar 1) aNil))) [5]))
  (seqS (ifS (andB (toB (dOp oEq (dVar 2) (dC (.int 2)))) (toB (dOp oEq (needS 0 (dCallS 2 m_draw [] 0 (aCons (dC (.int 3)) aNil))) (dC (.int 0))))) (setS 3 (ifV (toB (dOp oEq (dVar 1) (dC (.int 4)))) (dLc (iZipD (aCons (dLst (aCons (dC (.str [48, 48, 49, 49])) (aCons (dC (.str [48, 48, 49, 49])) aNil))) (aCons (dLst (aCons (dC (.int 0)) (aCons (dC (.int 1)) aNil))) aNil))) (gmTup (gmCons (gmName 6) (gmCons (gmName 7) gmNil))) (retB true) (dCallN 2 m__law_turned [] (aCons (dVar 6) (aCons (dVar 7) aNil))) [6, 7]) (dVar 3))) nxS)
  (seqS (setS 4 (dLc (iRange1 (aCons (dVar 2) aNil)) (gmName 5) (retB true) (needS 0 (dCallS 2 m_of [] 0 (aCons (dLst (aCons (dC (.int 0)) (aCons (dC (.int 0)) (aCons (dC (.int 0)) (aCons (dC (.int 1)) (aCons (dC (.int 0)) (aCons (dC (.int 2)) aNil))))))) aNil))) [5]))
  (retS (dTup (aCons (dVar 3) (aCons (dVar 4) (aCons (ifV (toB (dOp oEq (needS 0 (dCallS 2 m_draw [] 0 (aCons (dC (.int 8)) aNil))) (dC (.int 0)))) (needS 0 (dCallS 2 m_draw [] 0 (aCons (dVar 2) aNil))) (dC .non)) aNil))))))))
def m__law_drawn_wheel : List D → Option (R × List D) := runD 8 sm__law_drawn_wheel
def sm_is_marks : SM := (seqS (ifS (orB (notB (truB (dUn (isiD (tabB .str)) (dVar 0)))) (notB (toB (chainV oLe oLe (dVar 1) (dCall fLen (aCons (dVar 0) aNil)) (dVar 2))))) (retS (dC (.bl false))) nxS)
  (retS (dCall fAll (aCons (dLc (iSeq (dVar 0)) (gmName 3) (retB true) (dOp oIn (dVar 3) (dC (.str [48, 49]))) [3]) aNil))))
def m_is_marks : List D → Option (R × List D) := runD 4 sm_is_marks
def sm_is_track : SM := (retS (dCallN 3 m_is_marks [] (aCons (dVar 0) (aCons (dC (.int 2)) (aCons (dC (.int 12)) aNil)))))
def m_is_track : List D → Option (R × List D) := runD 1 sm_is_track
def sm_need_tracks : SM := (seqS (ifS (toB (dOp oEq (dCall fLen (aCons (dVar 0) aNil)) (dC (.int 0)))) noS nxS)
  (seqS (ifS (toB (dOp oGt (dCall fLen (aCons (dVar 0) aNil)) (dC (.int 3)))) noS nxS)
  (seqS (forS (iEnumAD (aCons (dVar 0) aNil)) (gmTup (gmCons (gmName 1) (gmCons (gmName 2) gmNil))) (ifS (notB (truB (dCallN 1 m_is_track [] (aCons (dVar 2) aNil)))) noS nxS))
  (forS (iSeq (dVar 0)) (gmName 2) (ifS (toB (dOp oNe (dCall fLen (aCons (dVar 2) aNil)) (dCall fLen (aCons (dOp oIx (dVar 0) (dC (.int 0))) aNil)))) noS nxS)))))
def m_need_tracks : List D → Option (R × List D) := runD 3 sm_need_tracks
def sm_is_list : SM := (retS (dUn (isiT [(tabB .lst), (tabB .tup)]) (dVar 0)))
def m_is_list : List D → Option (R × List D) := runD 1 sm_is_list
def sm_is_number : SM := (retS (andV (dUn (isiD (tabB .int)) (dVar 0)) (andV (notV (dUn (isiD (tabB .bl)) (dVar 0))) (chainV oLe oLe (dVar 1) (dVar 0) (dVar 2)))))
def m_is_number : List D → Option (R × List D) := runD 3 sm_is_number
def sm_need_shivers : SM := (seqS (ifS (notB (truB (dCallN 1 m_is_list [] (aCons (dVar 1) aNil)))) noS nxS)
  (seqS (forS (iRange1 (aCons (dVar 0) aNil)) (gmName 2) (ifS (orB (toB (dOp oGe (dVar 2) (dCall fLen (aCons (dVar 1) aNil)))) (notB (truB (dCallN 3 m_is_number [] (aCons (dOp oIx (dVar 1) (dVar 2)) (aCons (dC (.int 0)) (aCons (dC (.int 2)) aNil))))))) noS nxS))
  (ifS (toB (dOp oGt (dCall fLen (aCons (dVar 1) aNil)) (dVar 0))) noS nxS)))
def m_need_shivers : List D → Option (R × List D) := runD 3 sm_need_shivers
def sm_joined : SM := (seqS (setS 1 (dLst (aCons (dC (.str [])) aNil)))
  (seqS (forS (iSeq (dVar 0)) (gmName 2) (setS 1 (dLc2 (iSeq (dVar 1)) (gmName 3) (retB true) (iSeq (dVar 2)) (gmName 4) (retB true) (dOp oAdd (dVar 3) (dVar 4)) [3, 4] [4])))
  (retS (dVar 1))))
def m_joined : List D → Option (R × List D) := runD 5 sm_joined
def sm_Wheel_sights_at_p : SM := (seqS (setO 2 (dLst aNil))
  (seqS (forS (iEnumAD (aCons (dFldS 0 [0] 0) aNil)) (gmTup (gmCons (gmName 3) (gmCons (gmName 4) gmNil))) (seqS (setS 5 (dOp oIx (dFldS 0 [0] 1) (dVar 3)))
  (seqS (setS 6 (dLc (iRange2 (aCons (dUn oNeg (dVar 5)) (aCons (dOp oAdd (dVar 5) (dC (.int 1))) aNil))) (gmName 7) (retB true) (dOp oIx (dVar 4) (dOp oMod (dOp oAdd (dVar 1) (dVar 7)) (dCall fLen (aCons (dVar 4) aNil)))) [7]))
  (appS 2 (dLc (iSeq (dC (.str [48, 49]))) (gmName 8) (orB (toB (dOp oIn (dVar 8) (dVar 6))) (toB (dOp oEq (dVar 3) (dFldS 0 [0] 2)))) (dVar 8) [8])))))
  (retS (dCallN 1 m_joined [] (aCons (dVarF 2) aNil)))))
def m_Wheel_sights_at_p : List D → Option (R × List D) := runD 9 sm_Wheel_sights_at_p
def sm_Wheel___init__ : SM := (seqS (dropS (dCallN 1 m_need_tracks [] (aCons (dVar 3) aNil)))
  (seqS (setS 4 (ifV (toB (isNonV (dVar 1))) (dOp oMulA (dLst (aCons (dC (.int 0)) aNil)) (dCall fLen (aCons (dVar 3) aNil))) (dVar 1)))
  (seqS (dropS (dCallN 2 m_need_shivers [] (aCons (dCall fLen (aCons (dVar 3) aNil)) (aCons (dVar 4) aNil))))
  (seqS (ifS (andB (toB (notNonV (dVar 2))) (notB (truB (dCallN 3 m_is_number [] (aCons (dVar 2) (aCons (dC (.int 0)) (aCons (dOp oSub (dCall fLen (aCons (dVar 3) aNil)) (dC (.int 1))) aNil))))))) noS nxS)
  (seqS (fldS 0 [0] 0 (dCall fListA (aCons (dVar 3) aNil)))
  (seqS (fldS 0 [0] 1 (dCall fListA (aCons (dVar 4) aNil)))
  (seqS (fldS 0 [0] 2 (dVar 2))
  (fldS 0 [0] 3 (dLc (iRange1 (aCons (dCall fLen (aCons (dOp oIx (dVar 3) (dC (.int 0))) aNil)) aNil)) (gmName 5) (retB true) (dMethS 0 0 2 m_Wheel_sights_at_p (aCons (dVar 5) aNil)) [5])))))))))
def m_Wheel___init__ : List D → Option (R × List D) := runD 6 sm_Wheel___init__
def sm__law_wheel : SM := (seqS (setS 1 (dOp oIx (dVar 0) (dC (.int 0))))
  (seqS (ifS (toB (dOp oEq (dCall fLen (aCons (dVar 1) aNil)) (dC (.int 1)))) (retS (dFrz (dMakeA 0 2 2 (fun zs => pxD [0, 1] (zs ++ [])) m_Wheel___init__ (aCons (dOp oIx (dVar 1) (dC (.int 0))) aNil) (aCons (dCall fListA (aCons (dOp oIx (dVar 0) (dC (.int 1))) aNil)) (aCons (dOp oIx (dVar 0) (dC (.int 2))) aNil))))) nxS)
  (seqS (ifS (toB (dOp oEq (dCall fLen (aCons (dVar 1) aNil)) (dC (.int 2)))) (retS (dFrz (dMakeA 0 2 2 (fun zs => pxD [1, 0] (zs ++ [])) m_Wheel___init__ (aCons (dOp oIx (dVar 1) (dC (.int 0))) (aCons (dOp oIx (dVar 1) (dC (.int 1))) aNil)) (aCons (dOp oIx (dVar 0) (dC (.int 2))) (aCons (dCall fListA (aCons (dOp oIx (dVar 0) (dC (.int 1))) aNil)) aNil))))) nxS)
  (retS (dFrz (dMakeA 0 2 2 (fun zs => pxD [0, 1] (zs ++ [])) m_Wheel___init__ (aCons (dOp oIx (dVar 1) (dC (.int 0))) (aCons (dOp oIx (dVar 1) (dC (.int 1))) (aCons (dOp oIx (dVar 1) (dC (.int 2))) aNil))) (aCons (dCall fListA (aCons (dOp oIx (dVar 0) (dC (.int 1))) aNil)) (aCons (dOp oIx (dVar 0) (dC (.int 2))) aNil))))))))
def m__law_wheel : List D → Option (R × List D) := runD 2 sm__law_wheel
def sm_Wheel_size : SM := (retS (dCall fLen (aCons (dOp oIx (dUn (oFld [0] 0) (dVar 0)) (dC (.int 0))) aNil)))
def m_Wheel_size : List D → Option (R × List D) := runD 1 sm_Wheel_size
end DS
namespace DS
/-! ### loops -/
theorem forM_rel {gm : GM} {body : SM} (I : List D → DEnv → Prop) (hs : ∀ x xs e, I (x :: xs) e → ∃ e1, gm x e = some e1 ∧ ∃ e2, body e1 = some (.nx, e2) ∧ I xs e2) : ∀ xs e, I xs e → ∃ e2, forM gm body xs e = some (.nx, e2) ∧ I [] e2
  | [], e, h => ⟨e, rfl, h⟩
  | x :: xs, e, h => by
    obtain ⟨e1, h1, e2, h2, h3⟩ := hs x xs e h
    obtain ⟨e3, h4, h5⟩ := forM_rel I hs xs e2 h3
    refine ⟨e3, ?_, h5⟩
    unfold forM
    rw [h1]
    simp only [h2]
    exact h4
/-- a comprehension whose targets are any: the slots of vs aside, the turn sees env -/
theorem lcM_any {gm : GM} {tm : BM} {em : EM} {vs : List Nat} {env : DEnv} {p : D → Bool} {φ : D → D} : ∀ (xs : List D) (e : DEnv), wipeD e vs = wipeD env vs → (∀ x ∈ xs, ∃ e1, gm x (wipeD env vs) = some e1 ∧ wipeD e1 vs = wipeD env vs ∧ tm e1 = some (.ok (p x), e1) ∧ (p x = true → em e1 = some (.ok (φ x), e1))) →
    ∃ e', lcM gm tm em vs xs e = some ((xs.filter p).map φ, e') ∧ wipeD e' vs = wipeD env vs
  | [], e, he, _ => ⟨e, rfl, he⟩
  | x :: xs, e, he, h => by
    obtain ⟨e1, h1, h2, h3, h4⟩ := h x (by simp)
    obtain ⟨e', h5, h6⟩ := lcM_any xs e1 h2 fun y hy => h y (by simp [hy])
    refine ⟨e', ?_, h6⟩
    unfold lcM
    rw [he, h1]
    simp only [h3]
    by_cases q : p x = true
    · simp [q, h4 q, h5, List.filter_cons]
    · simp [q, h5, List.filter_cons]
theorem rest_of {e e' : DEnv} : ∀ {vs : List Nat}, wipeD e' vs = wipeD e vs → (∀ v ∈ vs, v < e.length) → restD e e' vs = e := by
  intro vs h hv
  have hl : e'.length = e.length := by
    have := congrArg List.length h
    rwa [wipeD_length, wipeD_length] at this
  refine List.ext_getElem? fun j => ?_
  by_cases q : j ∈ vs
  · rw [restD_in q (by rw [hl]; exact hv j q)]
    unfold slotOf
    rw [List.getElem?_eq_getElem (hv j q)]
  · rw [restD_out q, ← wipeD_out (env := e') q, h, wipeD_out q]
/-- two clauses -/
theorem lcM2_any {gm : GM} {tm : BM} {im1 : IM} {gm1 : GM} {tm1 : BM} {em : EM} {vs vs1 : List Nat} {env : DEnv} {φ : D → List D} : ∀ (xs : List D) (e : DEnv), wipeD e vs = wipeD env vs →
    (∀ x ∈ xs, ∃ e1 ys e2, gm x (wipeD env vs) = some e1 ∧ tm e1 = some (.ok true, e1) ∧ im1 e1 = some (.ok ys, e1) ∧ lcM gm1 tm1 em vs1 ys e1 = some (φ x, e2) ∧ wipeD e2 vs = wipeD env vs) →
    ∃ e', lcM2 gm tm im1 gm1 tm1 em vs vs1 xs e = some (xs.flatMap φ, e') ∧ wipeD e' vs = wipeD env vs
  | [], e, he, _ => ⟨e, rfl, he⟩
  | x :: xs, e, he, h => by
    obtain ⟨e1, ys, e2, h1, h2, h3, h4, h5⟩ := h x (by simp)
    obtain ⟨e', h6, h7⟩ := lcM2_any xs e2 h5 fun y hy => h y (by simp [hy])
    refine ⟨e', ?_, h7⟩
    unfold lcM2
    rw [he, h1]
    simp [h2, h3, h4, h6]
theorem dLc2_any {im : IM} {gm : GM} {tm : BM} {im1 : IM} {gm1 : GM} {tm1 : BM} {em : EM} {vs vs1 : List Nat} {env : DEnv} {xs : List D} (φ : D → List D) (hi : im env = some (.ok xs, env)) (hl : (xs.flatMap φ).length ≤ 16777216) (hv : ∀ v ∈ vs, v < env.length) (hp : plainSl env vs = true)
    (h : ∀ x ∈ xs, ∃ e1 ys e2, gm x (wipeD env vs) = some e1 ∧ tm e1 = some (.ok true, e1) ∧ im1 e1 = some (.ok ys, e1) ∧ lcM gm1 tm1 em vs1 ys e1 = some (φ x, e2) ∧ wipeD e2 vs = wipeD env vs) :
    dLc2 im gm tm im1 gm1 tm1 em vs vs1 env = some (.ok (.lst (xs.flatMap φ)), env) := by
  obtain ⟨e', h1, h2⟩ := lcM2_any (φ := φ) xs env rfl h
  unfold dLc2
  rw [hi]
  simp only [h1, rest_of h2 hv]
  rw [if_pos (by rw [hp]; simpa using hl)]
/-! ### texts in lists -/
def strL (l : List (List Nat)) : List D := l.map D.str
theorem strs_any (x : List Nat) : ∀ (l : List (List Nat)), ((strL l).any fun z => deq z (.str x)) = l.contains x
  | [] => rfl
  | y :: l => by
    have := strs_any x l
    unfold strL at this ⊢
    rw [List.map_cons, List.any_cons, this, List.contains_cons]
    simp [deq, Bool.beq_comm]
theorem strs_ok (l : List (List Nat)) (n : Nat) : (strL l).all (okD n) = true := by
  unfold strL
  rw [List.all_map, List.all_eq_true]
  intro x hx; cases n <;> rfl
theorem in_strs (x : List Nat) (l : List (List Nat)) : oIn (.str x) (.lst (strL l)) = some (.bl (l.contains x)) := by
  have h : okD 60 (.lst (strL l)) = true := strs_ok l 59
  show (if (okD 60 (.str x) && okD 60 (.lst (strL l))) = true then some ((strL l).any fun z => deq z (.str x)) else none).map D.bl = _
  rw [h, strs_any]
  rfl
/-! ### numbers, marks -/
theorem num_int (n l m : Int) : m_is_number [.int n, .int l, .int m] = some (.ok (.bl (decide (l ≤ n) && decide (n ≤ m))), []) := by
  by_cases h1 : l ≤ n <;> by_cases h2 : n ≤ m <;> simp [m_is_number, sm_is_number, h1, h2]
theorem is_list_lst (l : List D) : m_is_list [.lst l] = some (.ok (.bl true), []) := by simp [m_is_list, sm_is_list]
theorem marks_int {t : List Nat} (l m : Int) (ht : t.length ≤ 16777216) : m_is_marks [.str t, .int l, .int m] = some (.ok (.bl (decide (l ≤ t.length) && (decide ((t.length : Int) ≤ m) && marks t))), []) := by
  have e := dLc_map (im := iSeq (dVar 0)) (v := 3) (em := dOp oIn (dVar 3) (dC (.str [48, 49]))) (env := [some (.str t), some (.int l), some (.int m), none]) (xs := t.map fun c => .str [c]) (fun d => match d with | .str [c] => .bl (([48, 49] : List Nat).contains c) | _ => .non) rfl (by rw [List.length_map]; omega) (by simp) rfl (by
    intro x hx
    obtain ⟨c, _, rfl⟩ := List.mem_map.mp hx
    simp)
  have e2 : (t.map fun c => D.str [c]).map (fun d => match d with | .str [c] => .bl (([48, 49] : List Nat).contains c) | _ => .non) = (t.map fun c => ([48, 49] : List Nat).contains c).map D.bl := by
    rw [List.map_map, List.map_map]; rfl
  rw [e2] at e
  have e3 : (t.map fun c => ([48, 49] : List Nat).contains c).all id = marks t := by
    unfold marks
    rw [List.all_map]
    congr 1
    funext c
    simp only [Function.comp_def, List.contains_cons, List.contains_nil, Bool.or_false, id]
  have e4 : fAll [.lst ((t.map fun c => ([48, 49] : List Nat).contains c).map D.bl)] = some (.bl (marks t)) := by
    simp only [fAll, boolsOf_map, Option.map_some, e3]
  clear e2
  generalize (t.map fun c => ([48, 49] : List Nat).contains c) = bs at e e3 e4
  by_cases h1 : l ≤ t.length <;> by_cases h2 : (t.length : Int) ≤ m <;> simp [m_is_marks, sm_is_marks, h1, h2, e, e4]
theorem track_ok {t : List Nat} (h : marks t = true) (h1 : 2 ≤ t.length) (h2 : t.length ≤ 12) : m_is_track [.str t] = some (.ok (.bl true), []) := by
  have e := marks_int (t := t) 2 12 (by omega)
  have d1 : decide ((2 : Int) ≤ t.length) = true := by simp; omega
  have d2 : decide ((t.length : Int) ≤ 12) = true := by simp; omega
  rw [h, d1, d2] at e
  simp [m_is_track, sm_is_track, e]
end DS
namespace DS
/-! ### wheels, plainly -/
structure WM where
  tr : List (List Nat)
  sh : List Nat
  wo : Option Nat
structure WM.Ok (W : WM) (sz many : Nat) : Prop where
  len : W.tr.length = many
  m1 : 1 ≤ many
  m3 : many ≤ 3
  sl : ∀ t ∈ W.tr, t.length = sz
  mks : ∀ t ∈ W.tr, marks t = true
  s2 : 2 ≤ sz
  s12 : sz ≤ 12
  shl : W.sh.length = many
  shv : ∀ s ∈ W.sh, s ≤ 2
  wov : ∀ i, W.wo = some i → i < many
def optN : Option Nat → D
  | none => .non
  | some i => .int i
def intL (l : List Nat) : List D := l.map fun (n : Nat) => .int (n : Int)
def encW (W : WM) : D := .tup [.lst (strL W.tr), .lst (intL W.sh), optN W.wo]
/-- the marks that a track's shiver may read at a place -/
def near (t : List Nat) (s : Nat) (p : Int) : List Nat := (List.range (2 * s + 1)).map fun (i : Nat) => t.getD ((p + (-(s : Int) + (i : Int))) % t.length).toNat 0
def lot (t : List Nat) (s : Nat) (w : Bool) (p : Int) : List Nat := [48, 49].filter fun c => (near t s p).contains c || w
def lotsM (W : WM) (p : Int) : List (List Nat) := (List.range W.tr.length).map fun (i : Nat) => lot (W.tr.getD i []) (W.sh.getD i 0) (W.wo == some i) p
def prodM (lots : List (List Nat)) : List (List Nat) := lots.foldl (fun f l => f.flatMap fun t => l.map fun c => t ++ [c]) [[]]
def sightsM (W : WM) (p : Int) : List (List Nat) := prodM (lotsM W p)
theorem lot_len (t : List Nat) (s : Nat) (w : Bool) (p : Int) : (lot t s w p).length ≤ 2 := List.length_filter_le _ _
theorem lots_len (W : WM) (p : Int) : (lotsM W p).length = W.tr.length := by simp [lotsM]
theorem lots_two (W : WM) (p : Int) : ∀ l ∈ lotsM W p, l.length ≤ 2 := by
  intro l hl
  obtain ⟨i, _, rfl⟩ := List.mem_map.mp hl
  exact lot_len _ _ _ _
theorem flat_len {α β : Type} (f : α → List β) (n : Nat) : ∀ (l : List α), (∀ x ∈ l, (f x).length ≤ n) → (l.flatMap f).length ≤ l.length * n
  | [], _ => by simp
  | x :: l, h => by
    have h1 := h x (by simp)
    have h2 := flat_len f n l fun y hy => h y (by simp [hy])
    rw [List.flatMap_cons, List.length_append, List.length_cons, Nat.succ_mul]
    omega
/-- one more track -/
def growM (f : List (List Nat)) (l : List Nat) : List (List Nat) := f.flatMap fun t => l.map fun c => t ++ [c]
theorem grow_len {f : List (List Nat)} {l : List Nat} {n : Nat} (h : l.length ≤ 2) (hf : f.length ≤ n) : (growM f l).length ≤ n * 2 := by
  have := flat_len (fun t => l.map fun c => t ++ [c]) 2 f (fun t _ => by simpa using h)
  unfold growM
  omega
theorem grow_txt {f : List (List Nat)} {l : List Nat} {n : Nat} (hf : ∀ t ∈ f, t.length = n) : ∀ t ∈ growM f l, t.length = n + 1 := by
  intro t ht
  unfold growM at ht
  obtain ⟨u, hu, ht⟩ := List.mem_flatMap.mp ht
  obtain ⟨c, _, rfl⟩ := List.mem_map.mp ht
  simp [hf u hu]
theorem fold_facts : ∀ (lots : List (List Nat)) (f : List (List Nat)) (n k : Nat), (∀ l ∈ lots, l.length ≤ 2) → f.length ≤ n → (∀ t ∈ f, t.length = k) → (lots.foldl growM f).length ≤ n * 2 ^ lots.length ∧ ∀ t ∈ lots.foldl growM f, t.length = k + lots.length
  | [], f, n, k, _, h1, h2 => by simpa using ⟨h1, h2⟩
  | l :: lots, f, n, k, h, h1, h2 => by
    obtain ⟨a, b⟩ := fold_facts lots (growM f l) (n * 2) (k + 1) (fun q hq => h q (by simp [hq])) (grow_len (h l (by simp)) h1) (grow_txt h2)
    refine ⟨?_, fun t ht => ?_⟩
    · rw [List.foldl_cons, List.length_cons, Nat.pow_succ]
      refine Nat.le_trans a (Nat.le_of_eq ?_)
      rw [Nat.mul_assoc, Nat.mul_comm 2]
    · rw [b t ht, List.length_cons]; omega
theorem prod_eq (lots : List (List Nat)) : prodM lots = lots.foldl growM [[]] := rfl
theorem prod_facts {lots : List (List Nat)} (h : ∀ l ∈ lots, l.length ≤ 2) : (prodM lots).length ≤ 2 ^ lots.length ∧ ∀ t ∈ prodM lots, t.length = lots.length := by
  have := fold_facts lots [[]] 1 0 h (by simp) (by simp)
  simpa [prod_eq] using this
/-! ### joined -/
def lotD (l : List Nat) : D := .lst (l.map fun c => .str [c])
theorem joined_step {f : List (List Nat)} {l : List Nat} {o0 : D} {o2 o3 o4 : Option D} (h1 : f.length ≤ 100) (h2 : l.length ≤ 2) (h3 : ∀ t ∈ f, t.length ≤ 100) (n3 : okSl o3 = true) (n4 : okSl o4 = true) :
    dLc2 (iSeq (dVar 1)) (gmName 3) (retB true) (iSeq (dVar 2)) (gmName 4) (retB true) (dOp oAdd (dVar 3) (dVar 4)) [3, 4] [4] [some o0, some (.lst (strL f)), some (lotD l), o3, o4] = some (.ok (.lst (strL (growM f l))), [some o0, some (.lst (strL f)), some (lotD l), o3, o4]) := by
  have e : strL (growM f l) = (strL f).flatMap fun d => match d with | .str t => l.map fun c => .str (t ++ [c]) | _ => [] := by
    unfold strL growM
    rw [List.map_flatMap, List.flatMap_map]
    simp [Function.comp_def]
  rw [e]
  refine dLc2_any _ (by simp) ?_ (by simp) ?_ ?_
  · rw [← e]
    have := grow_len (n := 100) h2 h1
    unfold strL
    rw [List.length_map]; omega
  · cases o3 <;> cases o4 <;> simp_all [plainSl, slotOf, okSl]
  · intro x hx
    obtain ⟨t, ht, rfl⟩ := List.mem_map.mp hx
    have hl := h3 t ht
    obtain ⟨e2, h5, h6⟩ := lcM_any (gm := gmName 4) (tm := retB true) (em := dOp oAdd (dVar 3) (dVar 4)) (vs := [4]) (env := [some o0, some (.lst (strL f)), some (lotD l), some (.str t), none]) (p := fun _ => true) (φ := fun d => match d with | .str c => .str (t ++ c) | _ => .non) (l.map fun c => .str [c]) [some o0, some (.lst (strL f)), some (lotD l), some (.str t), none] rfl (by
      intro y hy
      obtain ⟨c, _, rfl⟩ := List.mem_map.mp hy
      refine ⟨[some o0, some (.lst (strL f)), some (lotD l), some (.str t), some (.str [c])], by simp [wipeD], rfl, rfl, fun _ => ?_⟩
      have : t.length + 1 ≤ 16777216 := by omega
      simp [this])
    refine ⟨[some o0, some (.lst (strL f)), some (lotD l), some (.str t), none], l.map (fun c => .str [c]), e2, by simp [wipeD], rfl, by simp [lotD], ?_, ?_⟩
    · rw [h5, List.filter_eq_self.mpr (fun _ _ => rfl), List.map_map]; rfl
    · have h7 : wipeD (wipeD e2 [4]) [3, 4] = wipeD (wipeD [some o0, some (.lst (strL f)), some (lotD l), some (.str t), none] [4]) [3, 4] := by rw [h6]
      have h8 : ∀ e : DEnv, wipeD (wipeD e [4]) [3, 4] = wipeD e [3, 4] := fun e => wipeD_sub (by simp)
      rw [h8, h8] at h7
      rw [h7]
      rfl
theorem joined_eq {lots : List (List Nat)} (h : ∀ l ∈ lots, l.length ≤ 2) (hl : lots.length ≤ 5) : m_joined [.lst (lots.map lotD)] = some (.ok (.lst (strL (prodM lots))), []) := by
  have loop : ∃ e2, forM (gmName 2) (setS 1 (dLc2 (iSeq (dVar 1)) (gmName 3) (retB true) (iSeq (dVar 2)) (gmName 4) (retB true) (dOp oAdd (dVar 3) (dVar 4)) [3, 4] [4])) (lots.map lotD) [some (.lst (lots.map lotD)), some (.lst [.str []]), none, none, none] = some (.nx, e2) ∧ (∃ o2, okSl o2 = true ∧ e2 = [some (.lst (lots.map lotD)), some (.lst (strL (prodM lots))), o2, none, none]) := by
    obtain ⟨e2, h1, k, h2, h3, o2, h4, h5⟩ := forM_rel (gm := gmName 2) (body := setS 1 (dLc2 (iSeq (dVar 1)) (gmName 3) (retB true) (iSeq (dVar 2)) (gmName 4) (retB true) (dOp oAdd (dVar 3) (dVar 4)) [3, 4] [4]))
      (fun rest e => ∃ k, k ≤ lots.length ∧ rest = (lots.drop k).map lotD ∧ ∃ o2, okSl o2 = true ∧ e = [some (.lst (lots.map lotD)), some (.lst (strL (prodM (lots.take k)))), o2, none, none]) (by
        intro x xs e ⟨k, hk, hr, o2, ho, he⟩
        subst he
        have hk2 : k < lots.length := by
          rcases Nat.lt_or_ge k lots.length with q | q
          · exact q
          · rw [List.drop_eq_nil_of_le q] at hr; cases hr
        rw [List.drop_eq_getElem_cons hk2, List.map_cons] at hr
        obtain ⟨rfl, rfl⟩ := List.cons.inj hr
        have f2 := prod_facts (lots := lots.take k) fun l hl => h l (List.mem_of_mem_take hl)
        have hp : 2 ^ (lots.take k).length ≤ 32 := by
          have : (lots.take k).length ≤ 5 := by rw [List.length_take]; omega
          exact Nat.pow_le_pow_right (n := 2) (by decide) this
        have st := joined_step (o0 := .lst (lots.map lotD)) (f := prodM (lots.take k)) (l := lots[k]) (o2 := none) (o3 := none) (o4 := none) (by omega) (h _ (List.getElem_mem _)) (fun t ht => by rw [f2.2 t ht, List.length_take]; omega) rfl rfl
        refine ⟨[some (.lst (lots.map lotD)), some (.lst (strL (prodM (lots.take k)))), some (lotD lots[k]), none, none], ?_, [some (.lst (lots.map lotD)), some (.lst (strL (prodM (lots.take (k + 1))))), some (lotD lots[k]), none, none], ?_, k + 1, hk2, rfl, some (lotD lots[k]), rfl, rfl⟩
        · simp [npin_ok ho]
        · have e1 : prodM (lots.take (k + 1)) = growM (prodM (lots.take k)) lots[k] := by
            rw [prod_eq, prod_eq, List.take_succ_eq_append_getElem hk2, List.foldl_append]; rfl
          rw [e1]
          simp [st]) (lots.map lotD) [some (.lst (lots.map lotD)), some (.lst [.str []]), none, none, none] ⟨0, Nat.zero_le _, by simp, none, rfl, rfl⟩
    have hk : k = lots.length := by
      have := congrArg List.length h3
      simp at this
      omega
    subst hk
    rw [List.take_length] at h5
    exact ⟨e2, h1, o2, h4, h5⟩
  obtain ⟨e2, h1, o2, ho, rfl⟩ := loop
  simp only [m_joined, sm_joined, ev_runD, ev_seqS]
  simp [h1]
end DS
namespace DS
local macro_rules | `(tactic| decreasing_trivial) => `(tactic| simp only [ev_runD, ev_fin_nx, ev_fin_rt, ev_fin_ex, ev_outs_nil, ev_outs_pin, ev_outs_non, ev_outs_bl, ev_outs_int, ev_outs_str, ev_outs_tup, ev_outs_lst, ev_outs_dic, ev_outs_ins, ev_startD, ev_seqS, ev_nxS, ev_bkS, ev_ctS, ev_retN, ev_bS, ev_dropS, ev_retS, ev_retO, ev_ifS, ev_setS, ev_setO, ev_toS, ev_putS, ev_freeSl, np_none, np_own, np_pin, np_non, np_bl, np_int, np_str, np_tup, np_lst, np_dic, np_ins, sh_non, sh_bl, sh_int, sh_str, sh_tup, sh_lst, sh_dic, sh_ins, sh_own, sh_pin, ev_lift, ev_liftN, ev_bE, ev_bB, ev_bA, ev_cB, ev_cBB, ev_retB, ev_dVar, ev_dC, ev_dOp, ev_dUn, ev_toB, ev_truB, ev_notB, ev_andB, ev_orB, ev_andV, ev_orV, ev_notV, ev_ifV, ev_chainV, ev_isNonV, ev_notNonV, ev_aNil, ev_aCons, ev_aStar, ev_shs_nil, ev_shs, shs_app, ev_bL, ev_dTup, ev_dLst, ev_dCall, ev_dCallN, ev_dCallNO, ev_dFrz, frz_lst, frz_dic, frz_ins, ev_dVarF, ev_retV, ev_asgS, ev_gmName, ev_gmTup, ev_gmNil, ev_gmCons, ev_forS, ev_liftI, ev_bIE, ev_bIA, ev_iSeq, ev_seq_lst, ev_seq_tup, ev_seq_str, ev_items_lst, ev_items_tup, ev_iRange1, ev_iRange2, ev_dSlice, ev_optN, ev_optS, ev_altE, ev_isiD, ev_isiT, kd_non, kd_bl, kd_int, kd_str, kd_tup, kd_lst, kd_dic, kd_ins, tab_bb, tab_bo, tab_ob, tab_oo, cd0, cd1, cd2, cd3, cd4, cd5, cd6, tru_non, tru_bl, tru_int, tru_str, tru_lst, tru_tup, len_str, len_lst, len_tup, o_sub, o_lt, o_le, o_gt, o_ge, o_mod, o_div, o_neg, o_addI, o_addS, o_addL, o_addT, o_isB, o_notB, o_eqI, o_neI, o_eqS, o_neS, o_eqB, o_neB, o_eqNI, o_eqIN, o_inS, o_ixL, o_ixT, o_ixS, atD_0, atD_1, atD_2, atD_3, atD_4, listA_lst, listA_tup, fInt_int, ev_slIns, ev_dFldS, ev_fldS, ev_slInsPut, putFD_nil, putFD_cons, ev_oFld, ev_slLst, ev_slPut, ev_dIxS, ev_lenS, ev_appS, ev_stoS, ev_dMethS, ev_dMethSO, ev_onS, ev_callS0, ev_onC, ev_isC, ev_callM, ev_callMO, ev_dMeth, ev_dMethO, ev_dProp, ev_dMakeA, pxD_nil, pxD_cons, ev_xNil, ev_xCons, ev_xOwn, putXs_nil, putXs_sh, putXs_ow, ev_parX, ev_iEnumAD, o_mulI, o_mulL, ev_needS, ev_dCallS, ev_callS, ev_aSlot, ev_dCallB, ev_callB, lent_nil, lent_sh, lent_sl, scal_bl, ev_starM, ev_take0, ev_take1, ev_drop0, ev_drop1, ev_dCallStar, ev_dMethStar, ev_dMakeN, ev_isk_int, ev_isk_str, ev_keyT, ev_slDic, ev_slPutD, ev_dInS, ev_dPutS, ev_dicOf, ev_dGet2P, ev_aStarVals, ev_clrS, ev_clrT, List.getElem?_cons_zero, List.getElem?_cons_succ, List.getElem?_nil, List.set_cons_zero, List.set_cons_succ, List.set_nil, List.map_cons, List.map_nil, List.cons_append, List.nil_append, List.length_cons, List.length_nil, Option.map_some, Option.map_none, reduceIte, if_true, ite_true, ite_false, if_false, Bool.and_true, Bool.true_and, Bool.and_false, Bool.false_and, Bool.or_true, Bool.true_or, Bool.or_false, Bool.false_or, Bool.not_true, Bool.not_false, Bool.true_eq_false, Bool.false_eq_true, decide_true, decide_false, Nat.reduceAdd, Nat.reduceSub, Nat.reduceMul, Nat.reduceLeDiff, Nat.reduceLT, Nat.reduceEqDiff, Nat.reduceBEq, Int.reduceLT, Int.reduceLE, Int.reduceEq, Int.reduceAdd, Int.reduceSub, Int.reduceBEq, List.reduceReplicate, List.contains_cons, List.contains_nil, List.lookup_cons, Option.isSome_some, Option.isSome_none, beq_self_eq_true, bne_self_eq_false, List.all_cons, List.all_nil, List.any_cons, List.any_nil, Nat.zero_add, List.append_nil, and_true, true_and, and_self, decide_eq_true_eq, Nat.reduceDiv, Int.toNat_natCast, List.getD_cons_zero, List.getD_cons_succ, Int.cast_ofNat_Int, Int.natCast_zero, Nat.le_refl, Nat.reduceBNe, Int.reduceBNe, Bool.and_self, Bool.or_self, not_true_eq_false, not_false_eq_true, ne_eq, reduceCtorEq, *])
theorem contains_one (c : Nat) : ∀ l : List Nat, (l.map fun c => [c]).contains [c] = l.contains c
  | [] => rfl
  | d :: l => by
    rw [List.map_cons, List.contains_cons, List.contains_cons, contains_one c l]
    congr 1
    simp [Bool.beq_eq_decide_eq]
theorem range_map (lo : Int) (n : Nat) (f : D → D) : (rangeD lo n).map f = (List.range n).map fun (i : Nat) => f (.int (lo + i)) := by
  unfold rangeD; rw [List.map_map]; rfl
theorem range_len (lo : Int) (n : Nat) : (rangeD lo n).length = n := by simp [rangeD]
theorem mem_range {lo : Int} {n : Nat} {x : D} (h : x ∈ rangeD lo n) : ∃ i : Nat, i < n ∧ x = .int (lo + i) := by
  unfold rangeD at h
  obtain ⟨i, hi, rfl⟩ := List.mem_map.mp h
  exact ⟨i, List.mem_range.mp hi, rfl⟩
/-- the value of an item's comprehension -/
def intF (f : Int → D) : D → D
  | .int b => f b
  | _ => .non
def ch1 (f : Nat → Bool) : D → Bool
  | .str [c] => f c
  | _ => false
theorem near_map (t : List Nat) (s : Nat) (p : Int) : (rangeD (-(s : Int)) (2 * s + 1)).map (intF fun b => .str [t.getD ((p + b) % t.length).toNat 0]) = strL ((near t s p).map fun c => [c]) := by
  rw [range_map]
  unfold strL near
  rw [List.map_map, List.map_map]
  rfl
theorem lot_map (t : List Nat) (s : Nat) (w : Bool) (p : Int) : ([48, 49].map fun (c : Nat) => D.str [c]).filter (ch1 fun c => ((near t s p).map fun c => [c]).contains [c] || w) = (lot t s w p).map fun c => D.str [c] := by
  unfold lot
  rw [List.filter_map]
  congr 1
  refine List.filter_congr fun c _ => ?_
  simp only [Function.comp_def, ch1, contains_one]
theorem at_mod {t : List Nat} {p : Int} (h : 0 < t.length) : atD t (p % t.length) = some (t.getD (p % t.length).toNat 0) := by
  have h0 : (0 : Int) < t.length := by omega
  have h1 := Int.emod_nonneg p (show (t.length : Int) ≠ 0 by omega)
  have h2 := Int.emod_lt_of_pos p h0
  obtain ⟨k, hk⟩ : ∃ k : Nat, p % t.length = k := ⟨_, (Int.toNat_of_nonneg h1).symm⟩
  rw [hk, atD_nat, Int.toNat_natCast]
  have : k < t.length := by omega
  rw [List.getD_eq_getElem?_getD, List.getElem?_eq_getElem this]
  rfl
theorem eq_opt (i : Nat) (o : Option Nat) : oEq (.int i) (optN o) = some (.bl (o == some i)) := by
  cases o with
  | none => rfl
  | some k =>
    show some (D.bl ((i : Int) == (k : Int))) = _
    congr 2
    rw [Bool.eq_iff_iff]
    simp only [beq_iff_eq, Option.some.injEq]
    omega
@[simp] theorem opt_sh (o : Option Nat) : (optN o).sh = true := by cases o <;> rfl
@[simp] theorem opt_np (o : Option Nat) : npin (some (optN o)) = true := by cases o <;> rfl
theorem enum_strs (l : List (List Nat)) : enumD (strL l) = (List.range l.length).map fun (i : Nat) => .tup [.int i, .str (l.getD i [])] := by
  unfold enumD strL
  refine List.ext_getElem? fun j => ?_
  rw [List.getElem?_map, List.getElem?_map, List.getElem?_zipIdx, List.getElem?_map]
  by_cases h : j < l.length
  · simp [h]
  · have h1 : l[j]? = none := List.getElem?_eq_none (by omega)
    have h2 : (List.range l.length)[j]? = none := List.getElem?_eq_none (by simp; omega)
    rw [h1, h2]; rfl
theorem intL_at {l : List Nat} {i : Nat} (h : i < l.length) : (intL l)[i]? = some (.int (l.getD i 0)) := by
  unfold intL
  rw [List.getElem?_map, List.getElem?_eq_getElem h]
  simp [h]
theorem strL_at {l : List (List Nat)} {i : Nat} (h : i < l.length) : (strL l)[i]? = some (.str (l.getD i [])) := by
  unfold strL
  rw [List.getElem?_map, List.getElem?_eq_getElem h]
  simp [h]
@[simp] theorem strL_len (l : List (List Nat)) : (strL l).length = l.length := by simp [strL]
@[simp] theorem intL_len (l : List Nat) : (intL l).length = l.length := by simp [intL]
theorem WM.Ok.tr_at {W : WM} {sz many : Nat} (h : W.Ok sz many) {i : Nat} (hi : i < many) : (W.tr.getD i []).length = sz ∧ marks (W.tr.getD i []) = true ∧ W.sh.getD i 0 ≤ 2 := by
  have h1 : i < W.tr.length := by rw [h.len]; exact hi
  have h2 : i < W.sh.length := by rw [h.shl]; exact hi
  have e1 : W.tr.getD i [] = W.tr[i] := by simp [h1]
  have e2 : W.sh.getD i 0 = W.sh[i] := by simp [h2]
  rw [e1, e2]
  exact ⟨h.sl _ (List.getElem_mem _), h.mks _ (List.getElem_mem _), h.shv _ (List.getElem_mem _)⟩
theorem range_drop (n k : Nat) (h : k < n) : (List.range n).drop k = k :: (List.range n).drop (k + 1) := by
  rw [List.drop_eq_getElem_cons (by simpa using h)]
  simp
/-- loops over range -/
theorem forM_range {gm : GM} {body : SM} {n : Nat} (f : Nat → D) (I : Nat → DEnv → Prop) (hs : ∀ k e, k < n → I k e → ∃ e1, gm (f k) e = some e1 ∧ ∃ e2, body e1 = some (.nx, e2) ∧ I (k + 1) e2) {e : DEnv} (h0 : I 0 e) : ∃ e2, forM gm body ((List.range n).map f) e = some (.nx, e2) ∧ I n e2 := by
  obtain ⟨e2, h1, k, h2, h3, h4⟩ := forM_rel (gm := gm) (body := body) (fun rest e => ∃ k, k ≤ n ∧ rest = ((List.range n).drop k).map f ∧ I k e) (by
    intro x xs e ⟨k, hk, hr, hi⟩
    have hk2 : k < n := by
      rcases Nat.lt_or_ge k n with q | q
      · exact q
      · rw [List.drop_eq_nil_of_le (by simpa using q)] at hr; cases hr
    rw [range_drop n k hk2, List.map_cons] at hr
    obtain ⟨rfl, rfl⟩ := List.cons.inj hr
    obtain ⟨e1, h1, e2, h2, h3⟩ := hs k e hk2 hi
    exact ⟨e1, h1, e2, h2, k + 1, hk2, rfl, h3⟩) ((List.range n).map f) e ⟨0, Nat.zero_le _, by simp, h0⟩
  have hk : k = n := by
    have := congrArg List.length h3
    simp at this
    omega
  subst hk
  exact ⟨e2, h1, h4⟩
theorem lots_take (W : WM) (p : Int) {k : Nat} (h : k < W.tr.length) : (lotsM W p).take (k + 1) = (lotsM W p).take k ++ [lot (W.tr.getD k []) (W.sh.getD k 0) (W.wo == some k) p] := by
  rw [List.take_succ_eq_append_getElem (by rw [lots_len]; exact h)]
  simp [lotsM]
theorem sights_at {W : WM} {sz many : Nat} (h : W.Ok sz many) {fs : List (Nat × D)} (f0 : fs.lookup 0 = some (.lst (strL W.tr))) (f1 : fs.lookup 1 = some (.lst (intL W.sh))) (f2 : fs.lookup 2 = some (optN W.wo)) (p : Int) :
    m_Wheel_sights_at_p [.pin (.ins 0 fs), .int p] = some (.ok (.lst (strL (sightsM W p))), [.ins 0 fs]) := by
  have loop : ∃ e2, forM (gmTup (gmCons (gmName 3) (gmCons (gmName 4) gmNil))) (seqS (setS 5 (dOp oIx (dFldS 0 [0] 1) (dVar 3)))
  (seqS (setS 6 (dLc (iRange2 (aCons (dUn oNeg (dVar 5)) (aCons (dOp oAdd (dVar 5) (dC (.int 1))) aNil))) (gmName 7) (retB true) (dOp oIx (dVar 4) (dOp oMod (dOp oAdd (dVar 1) (dVar 7)) (dCall fLen (aCons (dVar 4) aNil)))) [7]))
  (appS 2 (dLc (iSeq (dC (.str [48, 49]))) (gmName 8) (orB (toB (dOp oIn (dVar 8) (dVar 6))) (toB (dOp oEq (dVar 3) (dFldS 0 [0] 2)))) (dVar 8) [8])))) (enumD (strL W.tr)) [some (.pin (.ins 0 fs)), some (.int p), some (.own (.lst [])), none, none, none, none, none, none] = some (.nx, e2) ∧
      ∃ o3 o4 o5 o6, e2 = [some (.pin (.ins 0 fs)), some (.int p), some (.own (.lst (((lotsM W p).take W.tr.length).map lotD))), o3, o4, o5, o6, none, none] ∧ okSl o3 = true ∧ okSl o4 = true ∧ okSl o5 = true ∧ okSl o6 = true := by
    rw [enum_strs]
    refine forM_range (n := W.tr.length) (f := fun (i : Nat) => .tup [.int i, .str (W.tr.getD i [])])
      (fun k e => ∃ o3 o4 o5 o6, e = [some (.pin (.ins 0 fs)), some (.int p), some (.own (.lst (((lotsM W p).take k).map lotD))), o3, o4, o5, o6, none, none] ∧ okSl o3 = true ∧ okSl o4 = true ∧ okSl o5 = true ∧ okSl o6 = true) ?_ ⟨none, none, none, none, by simp, rfl, rfl, rfl, rfl⟩
    intro k e hk ⟨o3, o4, o5, o6, he, n3, n4, n5, n6⟩
    subst he
    have hk1 : k < many := by rw [← h.len]; exact hk
    obtain ⟨q1, q2, q3⟩ := h.tr_at hk1
    have hsl : k < W.sh.length := by rw [h.shl]; exact hk1
    have hs2 := h.s2
    have hs12 := h.s12
    have hlt : (lotsM W p).length ≤ 3 := by rw [lots_len, h.len]; exact h.m3
    generalize ht : W.tr.getD k [] = t at q1 q2
    generalize hs : W.sh.getD k 0 = s at q3
    have hm : (((lotsM W p).take k).map lotD).length < 16777216 := by rw [List.length_map, List.length_take]; omega
    have tk : ((lotsM W p).take (k + 1)).map lotD = ((lotsM W p).take k).map lotD ++ [lotD (lot t s (W.wo == some k) p)] := by rw [lots_take W p hk, ht, hs, List.map_append]; rfl
    rw [tk]
    generalize ((lotsM W p).take k).map lotD = L at hm
    have m3 := npin_ok n3
    have m4 := npin_ok n4
    have m5 := npin_ok n5
    have m6 := npin_ok n6
    refine ⟨[some (.pin (.ins 0 fs)), some (.int p), some (.own (.lst L)), some (.int k), some (.str t), o5, o6, none, none], ?_, ?_⟩
    · decreasing_trivial
    have c1 := dLc_map (im := iRange2 (aCons (dUn oNeg (dVar 5)) (aCons (dOp oAdd (dVar 5) (dC (.int 1))) aNil))) (v := 7) (em := dOp oIx (dVar 4) (dOp oMod (dOp oAdd (dVar 1) (dVar 7)) (dCall fLen (aCons (dVar 4) aNil)))) (env := [some (.pin (.ins 0 fs)), some (.int p), some (.own (.lst L)), some (.int k), some (.str t), some (.int s), o6, none, none]) (xs := rangeD (-(s : Int)) (2 * s + 1)) (intF fun b => .str [t.getD ((p + b) % t.length).toNat 0])
      (by
        have b1 : big62 (-(s : Int)) = true := big62_of (by omega) (by omega)
        have b2 : big62 ((s : Int) + 1) = true := big62_of (by omega) (by omega)
        have e : ((s : Int) + 1 - -(s : Int)).toNat = 2 * s + 1 := by omega
        decreasing_trivial) (by rw [range_len]; omega) (by simp) rfl (by
        intro x hx
        obtain ⟨i, hi, rfl⟩ := mem_range hx
        have hl : (0 : Int) < t.length := by omega
        have := at_mod (t := t) (p := p + (-(s : Int) + i)) (by omega)
        clear hx q1
        simp only [ev_runD, ev_fin_nx, ev_fin_rt, ev_fin_ex, ev_outs_nil, ev_outs_pin, ev_outs_non, ev_outs_bl, ev_outs_int, ev_outs_str, ev_outs_tup, ev_outs_lst, ev_outs_dic, ev_outs_ins, ev_startD, ev_seqS, ev_nxS, ev_bkS, ev_ctS, ev_retN, ev_bS, ev_dropS, ev_retS, ev_retO, ev_ifS, ev_setS, ev_setO, ev_toS, ev_putS, ev_freeSl, np_none, np_own, np_pin, np_non, np_bl, np_int, np_str, np_tup, np_lst, np_dic, np_ins, sh_non, sh_bl, sh_int, sh_str, sh_tup, sh_lst, sh_dic, sh_ins, sh_own, sh_pin, ev_lift, ev_liftN, ev_bE, ev_bB, ev_bA, ev_cB, ev_cBB, ev_retB, ev_dVar, ev_dC, ev_dOp, ev_dUn, ev_toB, ev_truB, ev_notB, ev_andB, ev_orB, ev_andV, ev_orV, ev_notV, ev_ifV, ev_chainV, ev_isNonV, ev_notNonV, ev_aNil, ev_aCons, ev_aStar, ev_shs_nil, ev_shs, shs_app, ev_bL, ev_dTup, ev_dLst, ev_dCall, ev_dCallN, ev_dCallNO, ev_dFrz, frz_lst, frz_dic, frz_ins, ev_dVarF, ev_retV, ev_asgS, ev_gmName, ev_gmTup, ev_gmNil, ev_gmCons, ev_forS, ev_liftI, ev_bIE, ev_bIA, ev_iSeq, ev_seq_lst, ev_seq_tup, ev_seq_str, ev_items_lst, ev_items_tup, ev_iRange1, ev_iRange2, ev_dSlice, ev_optN, ev_optS, ev_altE, ev_isiD, ev_isiT, kd_non, kd_bl, kd_int, kd_str, kd_tup, kd_lst, kd_dic, kd_ins, tab_bb, tab_bo, tab_ob, tab_oo, cd0, cd1, cd2, cd3, cd4, cd5, cd6, tru_non, tru_bl, tru_int, tru_str, tru_lst, tru_tup, len_str, len_lst, len_tup, o_sub, o_lt, o_le, o_gt, o_ge, o_mod, o_div, o_neg, o_addI, o_addS, o_addL, o_addT, o_isB, o_notB, o_eqI, o_neI, o_eqS, o_neS, o_eqB, o_neB, o_eqNI, o_eqIN, o_inS, o_ixL, o_ixT, o_ixS, atD_0, atD_1, atD_2, atD_3, atD_4, listA_lst, listA_tup, fInt_int, ev_slIns, ev_dFldS, ev_fldS, ev_slInsPut, putFD_nil, putFD_cons, ev_oFld, ev_slLst, ev_slPut, ev_dIxS, ev_lenS, ev_appS, ev_stoS, ev_dMethS, ev_dMethSO, ev_onS, ev_callS0, ev_onC, ev_isC, ev_callM, ev_callMO, ev_dMeth, ev_dMethO, ev_dProp, ev_dMakeA, pxD_nil, pxD_cons, ev_xNil, ev_xCons, ev_xOwn, putXs_nil, putXs_sh, putXs_ow, ev_parX, ev_iEnumAD, o_mulI, o_mulL, ev_needS, ev_dCallS, ev_callS, ev_aSlot, ev_dCallB, ev_callB, lent_nil, lent_sh, lent_sl, scal_bl, ev_starM, ev_take0, ev_take1, ev_drop0, ev_drop1, ev_dCallStar, ev_dMethStar, ev_dMakeN, ev_isk_int, ev_isk_str, ev_keyT, ev_slDic, ev_slPutD, ev_dInS, ev_dPutS, ev_dicOf, ev_dGet2P, ev_aStarVals, ev_clrS, ev_clrT, List.getElem?_cons_zero, List.getElem?_cons_succ, List.getElem?_nil, List.set_cons_zero, List.set_cons_succ, List.set_nil, List.map_cons, List.map_nil, List.cons_append, List.nil_append, List.length_cons, List.length_nil, Option.map_some, Option.map_none, reduceIte, if_true, ite_true, ite_false, if_false, Bool.and_true, Bool.true_and, Bool.and_false, Bool.false_and, Bool.or_true, Bool.true_or, Bool.or_false, Bool.false_or, Bool.not_true, Bool.not_false, Bool.true_eq_false, Bool.false_eq_true, decide_true, decide_false, Nat.reduceAdd, Nat.reduceSub, Nat.reduceMul, Nat.reduceLeDiff, Nat.reduceLT, Nat.reduceEqDiff, Nat.reduceBEq, Int.reduceLT, Int.reduceLE, Int.reduceEq, Int.reduceAdd, Int.reduceSub, Int.reduceBEq, List.reduceReplicate, List.contains_cons, List.contains_nil, List.lookup_cons, Option.isSome_some, Option.isSome_none, beq_self_eq_true, bne_self_eq_false, List.all_cons, List.all_nil, List.any_cons, List.any_nil, Nat.zero_add, List.append_nil, and_true, true_and, and_self, decide_eq_true_eq, Nat.reduceDiv, Int.toNat_natCast, List.getD_cons_zero, List.getD_cons_succ, Int.cast_ofNat_Int, Int.natCast_zero, Nat.le_refl, Nat.reduceBNe, Int.reduceBNe, Bool.and_self, Bool.or_self, not_true_eq_false, not_false_eq_true, ne_eq, reduceCtorEq, intF, *])
    rw [near_map] at c1
    generalize hN : (near t s p).map (fun c => [c]) = N at c1
    have c2 := dLc_pure (im := iSeq (dC (.str [48, 49]))) (v := 8) (tm := orB (toB (dOp oIn (dVar 8) (dVar 6))) (toB (dOp oEq (dVar 3) (dFldS 0 [0] 2)))) (em := dVar 8) (env := [some (.pin (.ins 0 fs)), some (.int p), some (.own (.lst L)), some (.int k), some (.str t), some (.int s), some (.lst (strL N)), none, none]) (xs := [48, 49].map fun c => .str [c]) (ch1 fun c => N.contains [c] || (W.wo == some k)) (fun x => x) (by decreasing_trivial) (by simp) (by simp) rfl
      (by
        intro x hx
        obtain ⟨c, _, rfl⟩ := List.mem_map.mp hx
        have e1 := in_strs [c] N
        have e2 := eq_opt k W.wo
        have e3 := opt_sh W.wo
        clear hx hN
        simp only [ch1]
        generalize N.contains [c] = b at e1 ⊢
        generalize (W.wo == some k) = b2 at e2 ⊢
        cases b <;> decreasing_trivial)
      (by
        intro x hx _
        obtain ⟨c, _, rfl⟩ := List.mem_map.mp hx
        clear hx
        decreasing_trivial)
    rw [← hN, lot_map, List.map_id'] at c2
    rw [← hN] at c1
    have ix : atD (intL W.sh) (k : Int) = some (.int s) := by rw [atD_nat, intL_at hsl, hs]
    refine ⟨[some (.pin (.ins 0 fs)), some (.int p), some (.own (.lst (L ++ [lotD (lot t s (W.wo == some k) p)]))), some (.int k), some (.str t), some (.int s), some (.lst (strL ((near t s p).map fun c => [c]))), none, none], ?_, _, _, _, _, rfl, rfl, rfl, rfl, rfl⟩
    clear hs ht tk hN
    unfold lotD
    decreasing_trivial
  obtain ⟨e2, h1, o3, o4, o5, o6, rfl, n3, n4, n5, n6⟩ := loop
  have ej := joined_eq (lots := lotsM W p) (lots_two W p) (by rw [lots_len, h.len]; have := h.m3; omega)
  have tk : (lotsM W p).take W.tr.length = lotsM W p := List.take_of_length_le (by rw [lots_len]; omega)
  rw [tk] at h1
  unfold sightsM m_Wheel_sights_at_p sm_Wheel_sights_at_p
  clear tk
  decreasing_trivial
end DS
namespace DS
local macro_rules | `(tactic| decreasing_trivial) => `(tactic| simp only [ev_runD, ev_fin_nx, ev_fin_rt, ev_fin_ex, ev_outs_nil, ev_outs_pin, ev_outs_non, ev_outs_bl, ev_outs_int, ev_outs_str, ev_outs_tup, ev_outs_lst, ev_outs_dic, ev_outs_ins, ev_startD, ev_seqS, ev_nxS, ev_bkS, ev_ctS, ev_retN, ev_bS, ev_dropS, ev_retS, ev_retO, ev_ifS, ev_setS, ev_setO, ev_toS, ev_putS, ev_freeSl, np_none, np_own, np_pin, np_non, np_bl, np_int, np_str, np_tup, np_lst, np_dic, np_ins, sh_non, sh_bl, sh_int, sh_str, sh_tup, sh_lst, sh_dic, sh_ins, sh_own, sh_pin, ev_lift, ev_liftN, ev_bE, ev_bB, ev_bA, ev_cB, ev_cBB, ev_retB, ev_dVar, ev_dC, ev_dOp, ev_dUn, ev_toB, ev_truB, ev_notB, ev_andB, ev_orB, ev_andV, ev_orV, ev_notV, ev_ifV, ev_chainV, ev_isNonV, ev_notNonV, ev_aNil, ev_aCons, ev_aStar, ev_shs_nil, ev_shs, shs_app, ev_bL, ev_dTup, ev_dLst, ev_dCall, ev_dCallN, ev_dCallNO, ev_dFrz, frz_lst, frz_dic, frz_ins, ev_dVarF, ev_retV, ev_asgS, ev_gmName, ev_gmTup, ev_gmNil, ev_gmCons, ev_forS, ev_liftI, ev_bIE, ev_bIA, ev_iSeq, ev_seq_lst, ev_seq_tup, ev_seq_str, ev_items_lst, ev_items_tup, ev_iRange1, ev_iRange2, ev_dSlice, ev_optN, ev_optS, ev_altE, ev_isiD, ev_isiT, kd_non, kd_bl, kd_int, kd_str, kd_tup, kd_lst, kd_dic, kd_ins, tab_bb, tab_bo, tab_ob, tab_oo, cd0, cd1, cd2, cd3, cd4, cd5, cd6, tru_non, tru_bl, tru_int, tru_str, tru_lst, tru_tup, len_str, len_lst, len_tup, o_sub, o_lt, o_le, o_gt, o_ge, o_mod, o_div, o_neg, o_addI, o_addS, o_addL, o_addT, o_isB, o_notB, o_eqI, o_neI, o_eqS, o_neS, o_eqB, o_neB, o_eqNI, o_eqIN, o_inS, o_ixL, o_ixT, o_ixS, atD_0, atD_1, atD_2, atD_3, atD_4, listA_lst, listA_tup, fInt_int, ev_slIns, ev_dFldS, ev_fldS, ev_slInsPut, putFD_nil, putFD_cons, ev_oFld, ev_slLst, ev_slPut, ev_dIxS, ev_lenS, ev_appS, ev_stoS, ev_dMethS, ev_dMethSO, ev_onS, ev_callS0, ev_onC, ev_isC, ev_callM, ev_callMO, ev_dMeth, ev_dMethO, ev_dProp, ev_dMakeA, pxD_nil, pxD_cons, ev_xNil, ev_xCons, ev_xOwn, putXs_nil, putXs_sh, putXs_ow, ev_parX, ev_iEnumAD, o_mulI, o_mulL, ev_needS, ev_dCallS, ev_callS, ev_aSlot, ev_dCallB, ev_callB, lent_nil, lent_sh, lent_sl, scal_bl, ev_starM, ev_take0, ev_take1, ev_drop0, ev_drop1, ev_dCallStar, ev_dMethStar, ev_dMakeN, ev_isk_int, ev_isk_str, ev_keyT, ev_slDic, ev_slPutD, ev_dInS, ev_dPutS, ev_dicOf, ev_dGet2P, ev_aStarVals, ev_clrS, ev_clrT, List.getElem?_cons_zero, List.getElem?_cons_succ, List.getElem?_nil, List.set_cons_zero, List.set_cons_succ, List.set_nil, List.map_cons, List.map_nil, List.cons_append, List.nil_append, List.length_cons, List.length_nil, Option.map_some, Option.map_none, reduceIte, if_true, ite_true, ite_false, if_false, Bool.and_true, Bool.true_and, Bool.and_false, Bool.false_and, Bool.or_true, Bool.true_or, Bool.or_false, Bool.false_or, Bool.not_true, Bool.not_false, Bool.true_eq_false, Bool.false_eq_true, decide_true, decide_false, Nat.reduceAdd, Nat.reduceSub, Nat.reduceMul, Nat.reduceLeDiff, Nat.reduceLT, Nat.reduceEqDiff, Nat.reduceBEq, Int.reduceLT, Int.reduceLE, Int.reduceEq, Int.reduceAdd, Int.reduceSub, Int.reduceBEq, List.reduceReplicate, List.contains_cons, List.contains_nil, List.lookup_cons, Option.isSome_some, Option.isSome_none, beq_self_eq_true, bne_self_eq_false, List.all_cons, List.all_nil, List.any_cons, List.any_nil, Nat.zero_add, List.append_nil, and_true, true_and, and_self, decide_eq_true_eq, Nat.reduceDiv, Int.toNat_natCast, List.getD_cons_zero, List.getD_cons_succ, Int.cast_ofNat_Int, Int.natCast_zero, Nat.le_refl, Nat.reduceBNe, Int.reduceBNe, Bool.and_self, Bool.or_self, not_true_eq_false, not_false_eq_true, ne_eq, reduceCtorEq, *])
/-- a loop that changes nothing that matters -/
theorem forM_all {gm : GM} {body : SM} (I : DEnv → Prop) : ∀ (xs : List D) (e : DEnv), I e → (∀ x ∈ xs, ∀ e, I e → ∃ e1, gm x e = some e1 ∧ ∃ e2, body e1 = some (.nx, e2) ∧ I e2) → ∃ e2, forM gm body xs e = some (.nx, e2) ∧ I e2
  | [], e, h, _ => ⟨e, rfl, h⟩
  | x :: xs, e, h, hs => by
    obtain ⟨e1, h1, e2, h2, h3⟩ := hs x (by simp) e h
    obtain ⟨e3, h4, h5⟩ := forM_all I xs e2 h3 fun y hy => hs y (by simp [hy])
    refine ⟨e3, ?_, h5⟩
    unfold forM
    rw [h1]
    simp only [h2]
    exact h4
def cellsD (W : WM) (sz : Nat) : List D := (List.range sz).map fun (c : Nat) => .lst (strL (sightsM W c))
def wheelD (W : WM) (sz : Nat) : D := .ins 0 [(0, .lst (strL W.tr)), (1, .lst (intL W.sh)), (2, optN W.wo), (3, .lst (cellsD W sz))]
theorem mem_strL {l : List (List Nat)} {x : D} (h : x ∈ strL l) : ∃ t ∈ l, x = .str t := by
  unfold strL at h
  obtain ⟨t, ht, rfl⟩ := List.mem_map.mp h
  exact ⟨t, ht, rfl⟩
theorem WM.Ok.pos {W : WM} {sz many : Nat} (h : W.Ok sz many) : 0 < W.tr.length := by rw [h.len]; exact h.m1
theorem need_tracks_ok {W : WM} {sz many : Nat} (h : W.Ok sz many) : m_need_tracks [.tup (strL W.tr)] = some (.ok .non, []) := by
  have hp := h.pos
  have h3 : W.tr.length ≤ 3 := by rw [h.len]; exact h.m3
  have hs2 := h.s2
  have hs12 := h.s12
  have l1 : ∃ e2, forM (gmTup (gmCons (gmName 1) (gmCons (gmName 2) gmNil))) (ifS (notB (truB (dCallN 1 m_is_track [] (aCons (dVar 2) aNil)))) noS nxS) (enumD (strL W.tr)) [some (.tup (strL W.tr)), none, none] = some (.nx, e2) ∧ ∃ o1 o2, e2 = [some (.tup (strL W.tr)), o1, o2] ∧ npin o1 = true ∧ npin o2 = true := by
    rw [enum_strs]
    refine forM_all (fun e => ∃ o1 o2, e = [some (.tup (strL W.tr)), o1, o2] ∧ npin o1 = true ∧ npin o2 = true) _ _ ⟨_, _, rfl, rfl, rfl⟩ ?_
    intro x hx e ⟨o1, o2, he, n1, n2⟩
    subst he
    obtain ⟨i, hi, rfl⟩ := List.mem_map.mp hx
    have hi := List.mem_range.mp hi
    obtain ⟨q1, q2, _⟩ := h.tr_at (by rw [← h.len]; exact hi)
    have tk := track_ok q2 (by omega) (by omega)
    clear hx q1 q2
    generalize W.tr.getD i [] = t at tk ⊢
    exact ⟨[some (.tup (strL W.tr)), some (.int i), some (.str t)], by decreasing_trivial, _, by decreasing_trivial, some (.int i), some (.str t), rfl, rfl, rfl⟩
  obtain ⟨e2, h1, o1, o2, rfl, n1, n2⟩ := l1
  obtain ⟨t0, ht0, hl0⟩ : ∃ t0, (strL W.tr)[0]? = some (.str t0) ∧ t0.length = sz := by
    refine ⟨W.tr.getD 0 [], strL_at hp, (h.tr_at h.m1).1⟩
  have l2 : ∃ e2, forM (gmName 2) (ifS (toB (dOp oNe (dCall fLen (aCons (dVar 2) aNil)) (dCall fLen (aCons (dOp oIx (dVar 0) (dC (.int 0))) aNil)))) noS nxS) (strL W.tr) [some (.tup (strL W.tr)), o1, o2] = some (.nx, e2) ∧ ∃ o2, e2 = [some (.tup (strL W.tr)), o1, o2] ∧ npin o2 = true := by
    refine forM_all (fun e => ∃ o2, e = [some (.tup (strL W.tr)), o1, o2] ∧ npin o2 = true) _ _ ⟨_, rfl, n2⟩ ?_
    intro x hx e ⟨o2, he, n2⟩
    subst he
    obtain ⟨t, ht, rfl⟩ := mem_strL hx
    have hl := h.sl t ht
    have e : ((t.length : Int) == (t0.length : Int)) = true := by rw [hl, hl0]; exact beq_self_eq_true _
    clear hx hl hl0 h1
    exact ⟨[some (.tup (strL W.tr)), o1, some (.str t)], by decreasing_trivial, [some (.tup (strL W.tr)), o1, some (.str t)], by decreasing_trivial, some (.str t), rfl, rfl⟩
  obtain ⟨e3, h2, o3, rfl, n3⟩ := l2
  have d0 : ((W.tr.length : Int) == 0) = false := by rw [beq_eq_false_iff_ne]; omega
  have d3 : decide ((3 : Int) < W.tr.length) = false := by rw [decide_eq_false_iff_not]; omega
  have sl := strL_len W.tr
  unfold m_need_tracks sm_need_tracks
  clear h
  decreasing_trivial
theorem need_shivers_ok {W : WM} {sz many : Nat} (h : W.Ok sz many) : m_need_shivers [.int many, .lst (intL W.sh)] = some (.ok .non, []) := by
  have hm := h.m3
  have l1 : ∃ e2, forM (gmName 2) (ifS (orB (toB (dOp oGe (dVar 2) (dCall fLen (aCons (dVar 1) aNil)))) (notB (truB (dCallN 3 m_is_number [] (aCons (dOp oIx (dVar 1) (dVar 2)) (aCons (dC (.int 0)) (aCons (dC (.int 2)) aNil))))))) noS nxS) (rangeD 0 many) [some (.int many), some (.lst (intL W.sh)), none] = some (.nx, e2) ∧ ∃ o2, e2 = [some (.int many), some (.lst (intL W.sh)), o2] ∧ npin o2 = true := by
    refine forM_all (fun e => ∃ o2, e = [some (.int many), some (.lst (intL W.sh)), o2] ∧ npin o2 = true) _ _ ⟨_, rfl, rfl⟩ ?_
    intro x hx e ⟨o2, he, n2⟩
    subst he
    obtain ⟨i, hi, rfl⟩ := mem_range hx
    obtain ⟨_, _, q⟩ := h.tr_at hi
    have hsl : i < W.sh.length := by rw [h.shl]; exact hi
    have z : (0 : Int) + (i : Int) = (i : Int) := Int.zero_add _
    rw [z]
    have a : atD (intL W.sh) (i : Int) = some (.int (W.sh.getD i 0)) := by rw [atD_nat, intL_at hsl]
    have d := num_int (W.sh.getD i 0) 0 2
    have d1 : decide ((0 : Int) ≤ (W.sh.getD i 0 : Nat)) = true := by simp
    have d2 : decide (((W.sh.getD i 0 : Nat) : Int) ≤ 2) = true := by rw [decide_eq_true_eq]; omega
    rw [d1, d2] at d
    have g : decide (((intL W.sh).length : Int) ≤ (i : Int)) = false := by rw [decide_eq_false_iff_not, intL_len]; omega
    clear hx d1 d2 z
    generalize W.sh.getD i 0 = s at a d
    exact ⟨[some (.int many), some (.lst (intL W.sh)), some (.int i)], by decreasing_trivial, [some (.int many), some (.lst (intL W.sh)), some (.int i)], by decreasing_trivial, some (.int i), rfl, rfl⟩
  obtain ⟨e2, h1, o2, rfl, n2⟩ := l1
  have b : big62 (many : Int) = true := big62_of (by omega) (by omega)
  have li := is_list_lst (intL W.sh)
  have g : decide ((many : Int) < ((intL W.sh).length : Int)) = false := by rw [decide_eq_false_iff_not, intL_len, h.shl]; omega
  unfold m_need_shivers sm_need_shivers
  clear h
  decreasing_trivial
theorem wheel_init {W : WM} {sz many : Nat} (h : W.Ok sz many) : m_Wheel___init__ [.pin (.ins 0 []), .lst (intL W.sh), optN W.wo, .tup (strL W.tr)] = some (.ok .non, [wheelD W sz]) := by
  have hm := h.m3
  have hs12 := h.s12
  have nt := need_tracks_ok h
  have ns := need_shivers_ok h
  have ln : ((strL W.tr).length : Int) = (many : Int) := by rw [strL_len, h.len]
  obtain ⟨t0, ht0, hl0⟩ : ∃ t0, (strL W.tr)[0]? = some (.str t0) ∧ t0.length = sz := ⟨W.tr.getD 0 [], strL_at h.pos, (h.tr_at h.m1).1⟩
  have c1 := dLc_map (im := iRange1 (aCons (dCall fLen (aCons (dOp oIx (dVar 3) (dC (.int 0))) aNil)) aNil)) (v := 5) (em := dMethS 0 0 2 m_Wheel_sights_at_p (aCons (dVar 5) aNil)) (env := [some (.pin (.ins 0 [(0, .lst (strL W.tr)), (1, .lst (intL W.sh)), (2, optN W.wo)])), some (.lst (intL W.sh)), some (optN W.wo), some (.tup (strL W.tr)), some (.lst (intL W.sh)), none]) (xs := rangeD 0 sz) (intF fun b => .lst (strL (sightsM W b)))
    (by
      have b1 : big62 (t0.length : Int) = true := big62_of (by omega) (by omega)
      rw [← hl0]
      clear h hl0
      decreasing_trivial) (by rw [range_len]; omega) (by simp) rfl (by
      intro x hx
      obtain ⟨i, hi, rfl⟩ := mem_range hx
      have s := sights_at h (fs := [(0, .lst (strL W.tr)), (1, .lst (intL W.sh)), (2, optN W.wo)]) rfl rfl rfl (0 + (i : Int))
      clear hx h
      simp only [ev_runD, ev_fin_nx, ev_fin_rt, ev_fin_ex, ev_outs_nil, ev_outs_pin, ev_outs_non, ev_outs_bl, ev_outs_int, ev_outs_str, ev_outs_tup, ev_outs_lst, ev_outs_dic, ev_outs_ins, ev_startD, ev_seqS, ev_nxS, ev_bkS, ev_ctS, ev_retN, ev_bS, ev_dropS, ev_retS, ev_retO, ev_ifS, ev_setS, ev_setO, ev_toS, ev_putS, ev_freeSl, np_none, np_own, np_pin, np_non, np_bl, np_int, np_str, np_tup, np_lst, np_dic, np_ins, sh_non, sh_bl, sh_int, sh_str, sh_tup, sh_lst, sh_dic, sh_ins, sh_own, sh_pin, ev_lift, ev_liftN, ev_bE, ev_bB, ev_bA, ev_cB, ev_cBB, ev_retB, ev_dVar, ev_dC, ev_dOp, ev_dUn, ev_toB, ev_truB, ev_notB, ev_andB, ev_orB, ev_andV, ev_orV, ev_notV, ev_ifV, ev_chainV, ev_isNonV, ev_notNonV, ev_aNil, ev_aCons, ev_aStar, ev_shs_nil, ev_shs, shs_app, ev_bL, ev_dTup, ev_dLst, ev_dCall, ev_dCallN, ev_dCallNO, ev_dFrz, frz_lst, frz_dic, frz_ins, ev_dVarF, ev_retV, ev_asgS, ev_gmName, ev_gmTup, ev_gmNil, ev_gmCons, ev_forS, ev_liftI, ev_bIE, ev_bIA, ev_iSeq, ev_seq_lst, ev_seq_tup, ev_seq_str, ev_items_lst, ev_items_tup, ev_iRange1, ev_iRange2, ev_dSlice, ev_optN, ev_optS, ev_altE, ev_isiD, ev_isiT, kd_non, kd_bl, kd_int, kd_str, kd_tup, kd_lst, kd_dic, kd_ins, tab_bb, tab_bo, tab_ob, tab_oo, cd0, cd1, cd2, cd3, cd4, cd5, cd6, tru_non, tru_bl, tru_int, tru_str, tru_lst, tru_tup, len_str, len_lst, len_tup, o_sub, o_lt, o_le, o_gt, o_ge, o_mod, o_div, o_neg, o_addI, o_addS, o_addL, o_addT, o_isB, o_notB, o_eqI, o_neI, o_eqS, o_neS, o_eqB, o_neB, o_eqNI, o_eqIN, o_inS, o_ixL, o_ixT, o_ixS, atD_0, atD_1, atD_2, atD_3, atD_4, listA_lst, listA_tup, fInt_int, ev_slIns, ev_dFldS, ev_fldS, ev_slInsPut, putFD_nil, putFD_cons, ev_oFld, ev_slLst, ev_slPut, ev_dIxS, ev_lenS, ev_appS, ev_stoS, ev_dMethS, ev_dMethSO, ev_onS, ev_callS0, ev_onC, ev_isC, ev_callM, ev_callMO, ev_dMeth, ev_dMethO, ev_dProp, ev_dMakeA, pxD_nil, pxD_cons, ev_xNil, ev_xCons, ev_xOwn, putXs_nil, putXs_sh, putXs_ow, ev_parX, ev_iEnumAD, o_mulI, o_mulL, ev_needS, ev_dCallS, ev_callS, ev_aSlot, ev_dCallB, ev_callB, lent_nil, lent_sh, lent_sl, scal_bl, ev_starM, ev_take0, ev_take1, ev_drop0, ev_drop1, ev_dCallStar, ev_dMethStar, ev_dMakeN, ev_isk_int, ev_isk_str, ev_keyT, ev_slDic, ev_slPutD, ev_dInS, ev_dPutS, ev_dicOf, ev_dGet2P, ev_aStarVals, ev_clrS, ev_clrT, List.getElem?_cons_zero, List.getElem?_cons_succ, List.getElem?_nil, List.set_cons_zero, List.set_cons_succ, List.set_nil, List.map_cons, List.map_nil, List.cons_append, List.nil_append, List.length_cons, List.length_nil, Option.map_some, Option.map_none, reduceIte, if_true, ite_true, ite_false, if_false, Bool.and_true, Bool.true_and, Bool.and_false, Bool.false_and, Bool.or_true, Bool.true_or, Bool.or_false, Bool.false_or, Bool.not_true, Bool.not_false, Bool.true_eq_false, Bool.false_eq_true, decide_true, decide_false, Nat.reduceAdd, Nat.reduceSub, Nat.reduceMul, Nat.reduceLeDiff, Nat.reduceLT, Nat.reduceEqDiff, Nat.reduceBEq, Int.reduceLT, Int.reduceLE, Int.reduceEq, Int.reduceAdd, Int.reduceSub, Int.reduceBEq, List.reduceReplicate, List.contains_cons, List.contains_nil, List.lookup_cons, Option.isSome_some, Option.isSome_none, beq_self_eq_true, bne_self_eq_false, List.all_cons, List.all_nil, List.any_cons, List.any_nil, Nat.zero_add, List.append_nil, and_true, true_and, and_self, decide_eq_true_eq, Nat.reduceDiv, Int.toNat_natCast, List.getD_cons_zero, List.getD_cons_succ, Int.cast_ofNat_Int, Int.natCast_zero, Nat.le_refl, Nat.reduceBNe, Int.reduceBNe, Bool.and_self, Bool.or_self, not_true_eq_false, not_false_eq_true, ne_eq, reduceCtorEq, intF, *])
  have e : (rangeD 0 sz).map (intF fun b => .lst (strL (sightsM W b))) = cellsD W sz := by
    rw [range_map]
    unfold cellsD
    refine List.map_congr_left fun i _ => ?_
    simp only [intF, Int.zero_add]
  rw [e] at c1
  have hv : optN W.wo = .non ∨ ∃ i : Nat, optN W.wo = .int i ∧ m_is_number [.int i, .int 0, .int ((many : Int) - 1)] = some (.ok (.bl true), []) := by
    cases q : W.wo with
    | none => exact .inl rfl
    | some i =>
      have hi := h.wov i q
      have d := num_int i 0 (many - 1)
      have d1 : decide ((0 : Int) ≤ (i : Nat)) = true := by simp
      have d2 : decide (((i : Nat) : Int) ≤ (many : Int) - 1) = true := by rw [decide_eq_true_eq]; omega
      rw [d1, d2] at d
      exact .inr ⟨i, rfl, d⟩
  unfold m_Wheel___init__ sm_Wheel___init__ wheelD
  clear h e hl0
  rcases hv with hv | ⟨i, hv, d⟩
  · rw [hv] at c1 ⊢
    clear hv
    decreasing_trivial
  · rw [hv] at c1 ⊢
    clear hv
    decreasing_trivial
end DS
namespace DS
local macro_rules | `(tactic| decreasing_trivial) => `(tactic| simp only [ev_runD, ev_fin_nx, ev_fin_rt, ev_fin_ex, ev_outs_nil, ev_outs_pin, ev_outs_non, ev_outs_bl, ev_outs_int, ev_outs_str, ev_outs_tup, ev_outs_lst, ev_outs_dic, ev_outs_ins, ev_startD, ev_seqS, ev_nxS, ev_bkS, ev_ctS, ev_retN, ev_bS, ev_dropS, ev_retS, ev_retO, ev_ifS, ev_setS, ev_setO, ev_toS, ev_putS, ev_freeSl, np_none, np_own, np_pin, np_non, np_bl, np_int, np_str, np_tup, np_lst, np_dic, np_ins, sh_non, sh_bl, sh_int, sh_str, sh_tup, sh_lst, sh_dic, sh_ins, sh_own, sh_pin, ev_lift, ev_liftN, ev_bE, ev_bB, ev_bA, ev_cB, ev_cBB, ev_retB, ev_dVar, ev_dC, ev_dOp, ev_dUn, ev_toB, ev_truB, ev_notB, ev_andB, ev_orB, ev_andV, ev_orV, ev_notV, ev_ifV, ev_chainV, ev_isNonV, ev_notNonV, ev_aNil, ev_aCons, ev_aStar, ev_shs_nil, ev_shs, shs_app, ev_bL, ev_dTup, ev_dLst, ev_dCall, ev_dCallN, ev_dCallNO, ev_dFrz, frz_lst, frz_dic, frz_ins, ev_dVarF, ev_retV, ev_asgS, ev_gmName, ev_gmTup, ev_gmNil, ev_gmCons, ev_forS, ev_liftI, ev_bIE, ev_bIA, ev_iSeq, ev_seq_lst, ev_seq_tup, ev_seq_str, ev_items_lst, ev_items_tup, ev_iRange1, ev_iRange2, ev_dSlice, ev_optN, ev_optS, ev_altE, ev_isiD, ev_isiT, kd_non, kd_bl, kd_int, kd_str, kd_tup, kd_lst, kd_dic, kd_ins, tab_bb, tab_bo, tab_ob, tab_oo, cd0, cd1, cd2, cd3, cd4, cd5, cd6, tru_non, tru_bl, tru_int, tru_str, tru_lst, tru_tup, len_str, len_lst, len_tup, o_sub, o_lt, o_le, o_gt, o_ge, o_mod, o_div, o_neg, o_addI, o_addS, o_addL, o_addT, o_isB, o_notB, o_eqI, o_neI, o_eqS, o_neS, o_eqB, o_neB, o_eqNI, o_eqIN, o_inS, o_ixL, o_ixT, o_ixS, atD_0, atD_1, atD_2, atD_3, atD_4, listA_lst, listA_tup, fInt_int, ev_slIns, ev_dFldS, ev_fldS, ev_slInsPut, putFD_nil, putFD_cons, ev_oFld, ev_slLst, ev_slPut, ev_dIxS, ev_lenS, ev_appS, ev_stoS, ev_dMethS, ev_dMethSO, ev_onS, ev_callS0, ev_onC, ev_isC, ev_callM, ev_callMO, ev_dMeth, ev_dMethO, ev_dProp, ev_dMakeA, pxD_nil, pxD_cons, ev_xNil, ev_xCons, ev_xOwn, putXs_nil, putXs_sh, putXs_ow, ev_parX, ev_iEnumAD, o_mulI, o_mulL, ev_needS, ev_dCallS, ev_callS, ev_aSlot, ev_dCallB, ev_callB, lent_nil, lent_sh, lent_sl, scal_bl, ev_starM, ev_take0, ev_take1, ev_drop0, ev_drop1, ev_dCallStar, ev_dMethStar, ev_dMakeN, ev_isk_int, ev_isk_str, ev_keyT, ev_slDic, ev_slPutD, ev_dInS, ev_dPutS, ev_dicOf, ev_dGet2P, ev_aStarVals, ev_clrS, ev_clrT, List.getElem?_cons_zero, List.getElem?_cons_succ, List.getElem?_nil, List.set_cons_zero, List.set_cons_succ, List.set_nil, List.map_cons, List.map_nil, List.cons_append, List.nil_append, List.length_cons, List.length_nil, Option.map_some, Option.map_none, reduceIte, if_true, ite_true, ite_false, if_false, Bool.and_true, Bool.true_and, Bool.and_false, Bool.false_and, Bool.or_true, Bool.true_or, Bool.or_false, Bool.false_or, Bool.not_true, Bool.not_false, Bool.true_eq_false, Bool.false_eq_true, decide_true, decide_false, Nat.reduceAdd, Nat.reduceSub, Nat.reduceMul, Nat.reduceLeDiff, Nat.reduceLT, Nat.reduceEqDiff, Nat.reduceBEq, Int.reduceLT, Int.reduceLE, Int.reduceEq, Int.reduceAdd, Int.reduceSub, Int.reduceBEq, List.reduceReplicate, List.contains_cons, List.contains_nil, List.lookup_cons, Option.isSome_some, Option.isSome_none, beq_self_eq_true, bne_self_eq_false, List.all_cons, List.all_nil, List.any_cons, List.any_nil, Nat.zero_add, List.append_nil, and_true, true_and, and_self, decide_eq_true_eq, Nat.reduceDiv, Int.toNat_natCast, List.getD_cons_zero, List.getD_cons_succ, Int.cast_ofNat_Int, Int.natCast_zero, Nat.le_refl, Nat.reduceBNe, Int.reduceBNe, Bool.and_self, Bool.or_self, not_true_eq_false, not_false_eq_true, ne_eq, reduceCtorEq, *])
theorem wheel_sh (W : WM) (sz : Nat) : ([(0, .lst (strL W.tr)), (1, .lst (intL W.sh)), (2, optN W.wo), (3, .lst (cellsD W sz))] : List (Nat × D)).all (fun p => p.2.sh) = true := by
  have := opt_sh W.wo
  decreasing_trivial
theorem law_wheel_ok {W : WM} {sz many : Nat} (h : W.Ok sz many) : m__law_wheel [encW W] = some (.ok (wheelD W sz), []) := by
  have wi := wheel_init h
  have ws := wheel_sh W sz
  have hm := h.len
  have m1 := h.m1
  have m3 := h.m3
  have os := opt_sh W.wo
  unfold m__law_wheel sm__law_wheel encW
  unfold wheelD at wi ⊢
  have e1 : ((1 : Int) == 1) = true := rfl
  have e2 : ((2 : Int) == 1) = false := rfl
  have e3 : ((3 : Int) == 1) = false := rfl
  have e4 : ((2 : Int) == 2) = true := rfl
  have e5 : ((3 : Int) == 2) = false := rfl
  generalize cellsD W sz = C at wi ws ⊢
  generalize optN W.wo = o at wi ws os ⊢
  generalize intL W.sh = sh at wi ws ⊢
  generalize W.tr = tr at wi ws hm ⊢
  clear h
  rcases tr with _ | ⟨a, _ | ⟨b, _ | ⟨c, _ | ⟨d, r⟩⟩⟩⟩
  · simp at hm; omega
  · clear hm m1 m3
    simp only [strL, List.map_cons, List.map_nil] at wi ws ⊢
    decreasing_trivial
  · clear hm m1 m3
    simp only [strL, List.map_cons, List.map_nil] at wi ws ⊢
    decreasing_trivial
  · clear hm m1 m3
    simp only [strL, List.map_cons, List.map_nil] at wi ws ⊢
    decreasing_trivial
  · simp at hm; omega
theorem size_ok {W : WM} {sz many : Nat} (h : W.Ok sz many) : m_Wheel_size [wheelD W sz] = some (.ok (.int sz), []) := by
  obtain ⟨t0, ht0, hl0⟩ : ∃ t0, (strL W.tr)[0]? = some (.str t0) ∧ t0.length = sz := ⟨W.tr.getD 0 [], strL_at h.pos, (h.tr_at h.m1).1⟩
  unfold m_Wheel_size sm_Wheel_size wheelD
  clear h
  generalize cellsD W sz = C
  decreasing_trivial
end DS
namespace DS
local macro_rules | `(tactic| decreasing_trivial) => `(tactic| simp only [ev_runD, ev_fin_nx, ev_fin_rt, ev_fin_ex, ev_outs_nil, ev_outs_pin, ev_outs_non, ev_outs_bl, ev_outs_int, ev_outs_str, ev_outs_tup, ev_outs_lst, ev_outs_dic, ev_outs_ins, ev_startD, ev_seqS, ev_nxS, ev_bkS, ev_ctS, ev_retN, ev_bS, ev_dropS, ev_retS, ev_retO, ev_ifS, ev_setS, ev_setO, ev_toS, ev_putS, ev_freeSl, np_none, np_own, np_pin, np_non, np_bl, np_int, np_str, np_tup, np_lst, np_dic, np_ins, sh_non, sh_bl, sh_int, sh_str, sh_tup, sh_lst, sh_dic, sh_ins, sh_own, sh_pin, ev_lift, ev_liftN, ev_bE, ev_bB, ev_bA, ev_cB, ev_cBB, ev_retB, ev_dVar, ev_dC, ev_dOp, ev_dUn, ev_toB, ev_truB, ev_notB, ev_andB, ev_orB, ev_andV, ev_orV, ev_notV, ev_ifV, ev_chainV, ev_isNonV, ev_notNonV, ev_aNil, ev_aCons, ev_aStar, ev_shs_nil, ev_shs, shs_app, ev_bL, ev_dTup, ev_dLst, ev_dCall, ev_dCallN, ev_dCallNO, ev_dFrz, frz_lst, frz_dic, frz_ins, ev_dVarF, ev_retV, ev_asgS, ev_gmName, ev_gmTup, ev_gmNil, ev_gmCons, ev_forS, ev_liftI, ev_bIE, ev_bIA, ev_iSeq, ev_seq_lst, ev_seq_tup, ev_seq_str, ev_items_lst, ev_items_tup, ev_iRange1, ev_iRange2, ev_dSlice, ev_optN, ev_optS, ev_altE, ev_isiD, ev_isiT, kd_non, kd_bl, kd_int, kd_str, kd_tup, kd_lst, kd_dic, kd_ins, tab_bb, tab_bo, tab_ob, tab_oo, cd0, cd1, cd2, cd3, cd4, cd5, cd6, tru_non, tru_bl, tru_int, tru_str, tru_lst, tru_tup, len_str, len_lst, len_tup, o_sub, o_lt, o_le, o_gt, o_ge, o_mod, o_div, o_neg, o_addI, o_addS, o_addL, o_addT, o_isB, o_notB, o_eqI, o_neI, o_eqS, o_neS, o_eqB, o_neB, o_eqNI, o_eqIN, o_inS, o_ixL, o_ixT, o_ixS, atD_0, atD_1, atD_2, atD_3, atD_4, listA_lst, listA_tup, fInt_int, ev_slIns, ev_dFldS, ev_fldS, ev_slInsPut, putFD_nil, putFD_cons, ev_oFld, ev_slLst, ev_slPut, ev_dIxS, ev_lenS, ev_appS, ev_stoS, ev_dMethS, ev_dMethSO, ev_onS, ev_callS0, ev_onC, ev_isC, ev_callM, ev_callMO, ev_dMeth, ev_dMethO, ev_dProp, ev_dMakeA, pxD_nil, pxD_cons, ev_xNil, ev_xCons, ev_xOwn, putXs_nil, putXs_sh, putXs_ow, ev_parX, ev_iEnumAD, o_mulI, o_mulL, ev_needS, ev_dCallS, ev_callS, ev_aSlot, ev_dCallB, ev_callB, lent_nil, lent_sh, lent_sl, scal_bl, ev_starM, ev_take0, ev_take1, ev_drop0, ev_drop1, ev_dCallStar, ev_dMethStar, ev_dMakeN, ev_isk_int, ev_isk_str, ev_keyT, ev_slDic, ev_slPutD, ev_dInS, ev_dPutS, ev_dicOf, ev_dGet2P, ev_aStarVals, ev_clrS, ev_clrT, List.getElem?_cons_zero, List.getElem?_cons_succ, List.getElem?_nil, List.set_cons_zero, List.set_cons_succ, List.set_nil, List.map_cons, List.map_nil, List.cons_append, List.nil_append, List.length_cons, List.length_nil, Option.map_some, Option.map_none, reduceIte, if_true, ite_true, ite_false, if_false, Bool.and_true, Bool.true_and, Bool.and_false, Bool.false_and, Bool.or_true, Bool.true_or, Bool.or_false, Bool.false_or, Bool.not_true, Bool.not_false, Bool.true_eq_false, Bool.false_eq_true, decide_true, decide_false, Nat.reduceAdd, Nat.reduceSub, Nat.reduceMul, Nat.reduceLeDiff, Nat.reduceLT, Nat.reduceEqDiff, Nat.reduceBEq, Int.reduceLT, Int.reduceLE, Int.reduceEq, Int.reduceAdd, Int.reduceSub, Int.reduceBEq, List.reduceReplicate, List.contains_cons, List.contains_nil, List.lookup_cons, Option.isSome_some, Option.isSome_none, beq_self_eq_true, bne_self_eq_false, List.all_cons, List.all_nil, List.any_cons, List.any_nil, Nat.zero_add, List.append_nil, and_true, true_and, and_self, decide_eq_true_eq, Nat.reduceDiv, Int.toNat_natCast, List.getD_cons_zero, List.getD_cons_succ, Int.cast_ofNat_Int, Int.natCast_zero, Nat.le_refl, Nat.reduceBNe, Int.reduceBNe, Bool.and_self, Bool.or_self, not_true_eq_false, not_false_eq_true, ne_eq, reduceCtorEq, *])
end DS
namespace DS
local macro_rules | `(tactic| decreasing_trivial) => `(tactic| simp only [ev_runD, ev_fin_nx, ev_fin_rt, ev_fin_ex, ev_outs_nil, ev_outs_pin, ev_outs_non, ev_outs_bl, ev_outs_int, ev_outs_str, ev_outs_tup, ev_outs_lst, ev_outs_dic, ev_outs_ins, ev_startD, ev_seqS, ev_nxS, ev_bkS, ev_ctS, ev_retN, ev_bS, ev_dropS, ev_retS, ev_retO, ev_ifS, ev_setS, ev_setO, ev_toS, ev_putS, ev_freeSl, np_none, np_own, np_pin, np_non, np_bl, np_int, np_str, np_tup, np_lst, np_dic, np_ins, sh_non, sh_bl, sh_int, sh_str, sh_tup, sh_lst, sh_dic, sh_ins, sh_own, sh_pin, ev_lift, ev_liftN, ev_bE, ev_bB, ev_bA, ev_cB, ev_cBB, ev_retB, ev_dVar, ev_dC, ev_dOp, ev_dUn, ev_toB, ev_truB, ev_notB, ev_andB, ev_orB, ev_andV, ev_orV, ev_notV, ev_ifV, ev_chainV, ev_isNonV, ev_notNonV, ev_aNil, ev_aCons, ev_aStar, ev_shs_nil, ev_shs, shs_app, ev_bL, ev_dTup, ev_dLst, ev_dCall, ev_dCallN, ev_dCallNO, ev_dFrz, frz_lst, frz_dic, frz_ins, ev_dVarF, ev_retV, ev_asgS, ev_gmName, ev_gmTup, ev_gmNil, ev_gmCons, ev_forS, ev_liftI, ev_bIE, ev_bIA, ev_iSeq, ev_seq_lst, ev_seq_tup, ev_seq_str, ev_items_lst, ev_items_tup, ev_iRange1, ev_iRange2, ev_dSlice, ev_optN, ev_optS, ev_altE, ev_isiD, ev_isiT, kd_non, kd_bl, kd_int, kd_str, kd_tup, kd_lst, kd_dic, kd_ins, tab_bb, tab_bo, tab_ob, tab_oo, cd0, cd1, cd2, cd3, cd4, cd5, cd6, tru_non, tru_bl, tru_int, tru_str, tru_lst, tru_tup, len_str, len_lst, len_tup, o_sub, o_lt, o_le, o_gt, o_ge, o_mod, o_div, o_neg, o_addI, o_addS, o_addL, o_addT, o_isB, o_notB, o_eqI, o_neI, o_eqS, o_neS, o_eqB, o_neB, o_eqNI, o_eqIN, o_inS, o_ixL, o_ixT, o_ixS, atD_0, atD_1, atD_2, atD_3, atD_4, listA_lst, listA_tup, fInt_int, ev_slIns, ev_dFldS, ev_fldS, ev_slInsPut, putFD_nil, putFD_cons, ev_oFld, ev_slLst, ev_slPut, ev_dIxS, ev_lenS, ev_appS, ev_stoS, ev_dMethS, ev_dMethSO, ev_onS, ev_callS0, ev_onC, ev_isC, ev_callM, ev_callMO, ev_dMeth, ev_dMethO, ev_dProp, ev_dMakeA, pxD_nil, pxD_cons, ev_xNil, ev_xCons, ev_xOwn, putXs_nil, putXs_sh, putXs_ow, ev_parX, ev_iEnumAD, o_mulI, o_mulL, ev_needS, ev_dCallS, ev_callS, ev_aSlot, ev_dCallB, ev_callB, lent_nil, lent_sh, lent_sl, scal_bl, ev_starM, ev_take0, ev_take1, ev_drop0, ev_drop1, ev_dCallStar, ev_dMethStar, ev_dMakeN, ev_isk_int, ev_isk_str, ev_keyT, ev_slDic, ev_slPutD, ev_dInS, ev_dPutS, ev_dicOf, ev_dGet2P, ev_aStarVals, ev_clrS, ev_clrT, List.getElem?_cons_zero, List.getElem?_cons_succ, List.getElem?_nil, List.set_cons_zero, List.set_cons_succ, List.set_nil, List.map_cons, List.map_nil, List.cons_append, List.nil_append, List.length_cons, List.length_nil, Option.map_some, Option.map_none, reduceIte, if_true, ite_true, ite_false, if_false, Bool.and_true, Bool.true_and, Bool.and_false, Bool.false_and, Bool.or_true, Bool.true_or, Bool.or_false, Bool.false_or, Bool.not_true, Bool.not_false, Bool.true_eq_false, Bool.false_eq_true, decide_true, decide_false, Nat.reduceAdd, Nat.reduceSub, Nat.reduceMul, Nat.reduceLeDiff, Nat.reduceLT, Nat.reduceEqDiff, Nat.reduceBEq, Int.reduceLT, Int.reduceLE, Int.reduceEq, Int.reduceAdd, Int.reduceSub, Int.reduceBEq, List.reduceReplicate, List.contains_cons, List.contains_nil, List.lookup_cons, Option.isSome_some, Option.isSome_none, beq_self_eq_true, bne_self_eq_false, List.all_cons, List.all_nil, List.any_cons, List.any_nil, Nat.zero_add, List.append_nil, and_true, true_and, and_self, decide_eq_true_eq, Nat.reduceDiv, Int.toNat_natCast, List.getD_cons_zero, List.getD_cons_succ, Int.cast_ofNat_Int, Int.natCast_zero, Nat.le_refl, Nat.reduceBNe, Int.reduceBNe, Bool.and_self, Bool.or_self, not_true_eq_false, not_false_eq_true, ne_eq, reduceCtorEq, *])
/-! ### draws in comprehensions -/
theorem lcM_draw {v j : Nat} {em : EM} {w : D → D} (hvj : v ≠ j) {env : DEnv} (hv : v < env.length) {R : D → Prop} : ∀ (xs : List D) (s : List D) (o : Option D), DrawOk s → (∀ x ∈ xs, ∀ s, DrawOk s → ∃ d s', em ((env.set j (some (w (.lst s)))).set v (some x)) = some (.ok d, (env.set j (some (w (.lst s')))).set v (some x)) ∧ R d ∧ DrawOk s') →
    ∃ ys s' o', lcM (gmName v) (retB true) em [v] xs ((env.set j (some (w (.lst s)))).set v o) = some (ys, (env.set j (some (w (.lst s')))).set v o') ∧ ys.length = xs.length ∧ (∀ y ∈ ys, R y) ∧ DrawOk s'
  | [], s, o, hs, _ => ⟨[], s, o, rfl, rfl, (fun y hy => by cases hy), hs⟩
  | x :: xs, s, o, hs, h => by
    obtain ⟨d, s1, h1, h2, h3⟩ := h x (by simp) s hs
    obtain ⟨ys, s', o', h4, h5, h6, h7⟩ := lcM_draw hvj hv xs s1 (some x) h3 fun y hy => h y (by simp [hy])
    refine ⟨d :: ys, s', o', ?_, by simp [h5], ?_, h7⟩
    · have hg : gmName v x (wipeD ((env.set j (some (w (.lst s)))).set v o) [v]) = some ((env.set j (some (w (.lst s)))).set v (some x)) := by
        simp only [gmName, wipeD, List.set_set, putS]
        rw [if_pos (by unfold freeSl; rw [List.getElem?_set_self (by simpa using hv)])]
      unfold lcM
      rw [hg]
      simp only [ev_retB, h1, h4]
    · intro y hy
      rcases List.mem_cons.mp hy with rfl | hy
      · exact h2
      · exact h6 y hy
theorem dLc_draw {im : IM} {v j : Nat} {em : EM} {w : D → D} {env : DEnv} {xs s : List D} {R : D → Prop} (hvj : v ≠ j) (hv : v < env.length) (hj : env[j]? = some (some (w (.lst s)))) (hs : DrawOk s) (hi : im env = some (.ok xs, env)) (hl : xs.length ≤ 16777216) (hp : okSl (slotOf env v) = true)
    (h : ∀ x ∈ xs, ∀ s, DrawOk s → ∃ d s', em ((env.set j (some (w (.lst s)))).set v (some x)) = some (.ok d, (env.set j (some (w (.lst s')))).set v (some x)) ∧ R d ∧ DrawOk s') :
    ∃ ys s', dLc im (gmName v) (retB true) em [v] env = some (.ok (.lst ys), env.set j (some (w (.lst s')))) ∧ ys.length = xs.length ∧ (∀ y ∈ ys, R y) ∧ DrawOk s' := by
  obtain ⟨ys, s', o', h1, h2, h3, h4⟩ := lcM_draw (w := w) hvj hv xs s (slotOf env v) hs h
  have hjl : j < env.length := by
    rcases Nat.lt_or_ge j env.length with q | q
    · exact q
    · rw [List.getElem?_eq_none q] at hj; cases hj
  have e0 : env.set j (some (w (.lst s))) = env := by
    refine List.ext_getElem? fun k => ?_
    by_cases q : k = j
    · subst q
      rw [List.getElem?_set_self hjl, hj]
    · rw [List.getElem?_set_ne (Ne.symm q)]
  rw [e0, set_same] at h1
  refine ⟨ys, s', ?_, h2, h3, h4⟩
  unfold dLc
  rw [hi]
  have pl : plainSl env [v] = true := by
    unfold plainSl
    simp only [List.all_cons, List.all_nil, Bool.and_true]
    unfold okSl at hp
    split at hp <;> simp_all
  simp only [pl, hl, decide_true, Bool.and_self, if_true, h1]
  congr 2
  simp only [restD]
  rw [List.set_set]
  refine List.ext_getElem? fun k => ?_
  by_cases q : v = k
  · subst q
    rw [List.getElem?_set_self (by simpa using hv), List.getElem?_set_ne (Ne.symm hvj)]
    unfold slotOf
    rw [List.getElem?_eq_getElem hv]
  · rw [List.getElem?_set_ne q]
theorem list_ex {α : Type} {f : α → D} {Q : α → Prop} : ∀ {ys : List D}, (∀ y ∈ ys, ∃ t, y = f t ∧ Q t) → ∃ ts : List α, ys = ts.map f ∧ ∀ t ∈ ts, Q t
  | [], _ => ⟨[], rfl, fun t h => by cases h⟩
  | y :: ys, h => by
    obtain ⟨t, rfl, q⟩ := h y (by simp)
    obtain ⟨ts, rfl, qs⟩ := list_ex (ys := ys) fun z hz => h z (by simp [hz])
    exact ⟨t :: ts, rfl, fun u hu => by
      rcases List.mem_cons.mp hu with rfl | hu
      · exact q
      · exact qs u hu⟩
/-! ### a drawn wheel -/
theorem drawn_wheel_ok {s : List D} (hs : DrawOk s) {sz many : Nat} (hz2 : 2 ≤ sz) (s12 : sz ≤ 12) (m1 : 1 ≤ many) (m3 : many ≤ 3) :
    ∃ W s', W.Ok sz many ∧ m__law_drawn_wheel [.pin (.lst s), .int sz, .int many] = some (.ok (encW W), [.lst s']) ∧ DrawOk s' := by
  have bg : big62 (many : Int) = true := big62_of (by omega) (by omega)
  -- the tracks
  obtain ⟨ys, s1, c1, l1, r1, h1⟩ := dLc_draw (im := iRange1 (aCons (dVar 2) aNil)) (v := 5) (j := 0) (em := needS 0 (dCallS 2 m_marks [] 0 (aCons (dVar 1) aNil))) (w := .pin) (env := [some (.pin (.lst s)), some (.int sz), some (.int many), none, none, none, none, none]) (xs := rangeD 0 many) (R := fun y => ∃ t, y = .str t ∧ t.length = sz ∧ marks t = true) (by decide) (by simp) rfl hs (by decreasing_trivial) (by rw [range_len]; omega) rfl (by
    intro x hx s hs
    obtain ⟨t, s', e, e1, e2, e3, h'⟩ := marks_spec (n := sz) hs (by omega) (by omega)
    refine ⟨.str t, s', ?_, ⟨t, rfl, by omega, e2⟩, h'⟩
    obtain ⟨i, hi, rfl⟩ := mem_range hx
    clear hx e1 e2 e3
    decreasing_trivial)
  rw [range_len] at l1
  obtain ⟨tr, rfl, rtr⟩ := list_ex r1
  rw [List.length_map] at l1
  replace c1 : dLc (iRange1 (aCons (dVar 2) aNil)) (gmName 5) (retB true) (needS 0 (dCallS 2 m_marks [] 0 (aCons (dVar 1) aNil))) [5] [some (.pin (.lst s)), some (.int sz), some (.int many), none, none, none, none, none] = some (.ok (.lst (strL tr)), [some (.pin (.lst s1)), some (.int sz), some (.int many), none, none, none, none, none]) := c1
  -- two tracks of four cells
  have c2 : ∃ tr2 s2, (∀ t ∈ tr2, t.length = sz ∧ marks t = true) ∧ tr2.length = many ∧ DrawOk s2 ∧
      (ifS (andB (toB (dOp oEq (dVar 2) (dC (.int 2)))) (toB (dOp oEq (needS 0 (dCallS 2 m_draw [] 0 (aCons (dC (.int 3)) aNil))) (dC (.int 0))))) (setS 3 (ifV (toB (dOp oEq (dVar 1) (dC (.int 4)))) (dLc (iZipD (aCons (dLst (aCons (dC (.str [48, 48, 49, 49])) (aCons (dC (.str [48, 48, 49, 49])) aNil))) (aCons (dLst (aCons (dC (.int 0)) (aCons (dC (.int 1)) aNil))) aNil))) (gmTup (gmCons (gmName 6) (gmCons (gmName 7) gmNil))) (retB true) (dCallN 2 m__law_turned [] (aCons (dVar 6) (aCons (dVar 7) aNil))) [6, 7]) (dVar 3))) nxS)
        [some (.pin (.lst s1)), some (.int sz), some (.int many), some (.lst (strL tr)), none, none, none, none] = some (.nx, [some (.pin (.lst s2)), some (.int sz), some (.int many), some (.lst (strL tr2)), none, none, none, none]) := by
    by_cases q : many = 2
    · subst q
      obtain ⟨d, s2, e, d0, d3, h2⟩ := draw_spec (n := 3) h1 (by decide) (by decide)
      by_cases q2 : d = 0
      · subst q2
        by_cases q4 : sz = 4
        · subst q4
          refine ⟨[[48, 48, 49, 49], [48, 49, 49, 48]], s2, ?_, rfl, h2, ?_⟩
          · intro t ht
            simp only [List.mem_cons, List.not_mem_nil, or_false] at ht
            rcases ht with rfl | rfl <;> exact ⟨rfl, rfl⟩
          · have c : dLc (iZipD (aCons (dLst (aCons (dC (.str [48, 48, 49, 49])) (aCons (dC (.str [48, 48, 49, 49])) aNil))) (aCons (dLst (aCons (dC (.int 0)) (aCons (dC (.int 1)) aNil))) aNil))) (gmTup (gmCons (gmName 6) (gmCons (gmName 7) gmNil))) (retB true) (dCallN 2 m__law_turned [] (aCons (dVar 6) (aCons (dVar 7) aNil))) [6, 7] [some (.pin (.lst s2)), some (.int 4), some (.int 2), some (.lst (strL tr)), none, none, none, none] = some (.ok (.lst (strL [[48, 48, 49, 49], [48, 49, 49, 48]])), [some (.pin (.lst s2)), some (.int 4), some (.int 2), some (.lst (strL tr)), none, none, none, none]) := rfl
            have z1 : (((2 : Nat) : Int) == 2) = true := rfl
            have z2 : (((4 : Nat) : Int) == 4) = true := rfl
            have z3 : ((0 : Int) == 0) = true := rfl
            clear c1 hs
            decreasing_trivial
        · refine ⟨tr, s2, rtr, l1, h2, ?_⟩
          have z1 : (((2 : Nat) : Int) == 2) = true := rfl
          have z2 : ((sz : Int) == 4) = false := by rw [beq_eq_false_iff_ne]; omega
          have z3 : ((0 : Int) == 0) = true := rfl
          clear c1 hs
          decreasing_trivial
      · refine ⟨tr, s2, rtr, l1, h2, ?_⟩
        have z1 : (((2 : Nat) : Int) == 2) = true := rfl
        have z3 : (d == 0) = false := by rw [beq_eq_false_iff_ne]; exact q2
        clear c1 hs
        decreasing_trivial
    · refine ⟨tr, s1, rtr, l1, h1, ?_⟩
      have z1 : ((many : Int) == 2) = false := by rw [beq_eq_false_iff_ne]; omega
      clear c1 hs
      decreasing_trivial
  obtain ⟨tr2, sb, rtr2, l2, hb, c2⟩ := c2
  -- the shivers
  obtain ⟨zs, sc, c3, l3, r3, hc⟩ := dLc_draw (im := iRange1 (aCons (dVar 2) aNil)) (v := 5) (j := 0) (em := needS 0 (dCallS 2 m_of [] 0 (aCons (dLst (aCons (dC (.int 0)) (aCons (dC (.int 0)) (aCons (dC (.int 0)) (aCons (dC (.int 1)) (aCons (dC (.int 0)) (aCons (dC (.int 2)) aNil))))))) aNil))) (w := .pin) (env := [some (.pin (.lst sb)), some (.int sz), some (.int many), some (.lst (strL tr2)), none, none, none, none]) (xs := rangeD 0 many) (R := fun y => ∃ t : Nat, y = .int t ∧ t ≤ 2) (by decide) (by simp) rfl hb (by clear c1 c2; decreasing_trivial) (by rw [range_len]; omega) rfl (by
    intro x hx s hs
    obtain ⟨y, s', hy, e, h'⟩ := of_spec (xs := [.int 0, .int 0, .int 0, .int 1, .int 0, .int 2]) hs (by decide) (by decide)
    have hy2 : ∃ t : Nat, y = .int t ∧ t ≤ 2 := by
      simp only [List.mem_cons, List.not_mem_nil, or_false] at hy
      rcases hy with rfl | rfl | rfl | rfl | rfl | rfl
      · exact ⟨0, rfl, by decide⟩
      · exact ⟨0, rfl, by decide⟩
      · exact ⟨0, rfl, by decide⟩
      · exact ⟨1, rfl, by decide⟩
      · exact ⟨0, rfl, by decide⟩
      · exact ⟨2, rfl, by decide⟩
    refine ⟨y, s', ?_, hy2, h'⟩
    obtain ⟨t, rfl, _⟩ := hy2
    obtain ⟨i, hi, rfl⟩ := mem_range hx
    clear hx hy c1 c2
    decreasing_trivial)
  rw [range_len] at l3
  obtain ⟨sh, rfl, rsh⟩ := list_ex r3
  rw [List.length_map] at l3
  replace c3 : dLc (iRange1 (aCons (dVar 2) aNil)) (gmName 5) (retB true) (needS 0 (dCallS 2 m_of [] 0 (aCons (dLst (aCons (dC (.int 0)) (aCons (dC (.int 0)) (aCons (dC (.int 0)) (aCons (dC (.int 1)) (aCons (dC (.int 0)) (aCons (dC (.int 2)) aNil))))))) aNil))) [5] [some (.pin (.lst sb)), some (.int sz), some (.int many), some (.lst (strL tr2)), none, none, none, none] = some (.ok (.lst (intL sh)), [some (.pin (.lst sc)), some (.int sz), some (.int many), some (.lst (strL tr2)), none, none, none, none]) := c3
  -- the worn track
  have c4 : ∃ wo sd, (∀ i, wo = some i → i < many) ∧ DrawOk sd ∧ ifV (toB (dOp oEq (needS 0 (dCallS 2 m_draw [] 0 (aCons (dC (.int 8)) aNil))) (dC (.int 0)))) (needS 0 (dCallS 2 m_draw [] 0 (aCons (dVar 2) aNil))) (dC .non) [some (.pin (.lst sc)), some (.int sz), some (.int many), some (.lst (strL tr2)), some (.lst (intL sh)), none, none, none] = some (.ok (optN wo), [some (.pin (.lst sd)), some (.int sz), some (.int many), some (.lst (strL tr2)), some (.lst (intL sh)), none, none, none]) := by
    obtain ⟨d, s2, e, d0, d3, h2⟩ := draw_spec (n := 8) hc (by decide) (by decide)
    by_cases q2 : d = 0
    · subst q2
      obtain ⟨d, s3, e', d0', d3', h3⟩ := draw_spec (n := many) h2 (by omega) (by omega)
      obtain ⟨k, rfl⟩ : ∃ k : Nat, d = k := ⟨d.toNat, by omega⟩
      refine ⟨some k, s3, fun i hi => by cases hi; omega, h3, ?_⟩
      have z3 : ((0 : Int) == 0) = true := rfl
      clear c1 c2 c3
      unfold optN
      decreasing_trivial
    · refine ⟨none, s2, (fun i hi => nomatch hi), h2, ?_⟩
      have z3 : (d == 0) = false := by rw [beq_eq_false_iff_ne]; exact q2
      clear c1 c2 c3
      unfold optN
      decreasing_trivial
  obtain ⟨wo, sd, rwo, hd, c4⟩ := c4
  refine ⟨⟨tr2, sh, wo⟩, sd, ⟨l2, m1, m3, fun t ht => (rtr2 t ht).1, fun t ht => (rtr2 t ht).2, hz2, s12, l3, rsh, rwo⟩, ?_, hd⟩
  unfold m__law_drawn_wheel sm__law_drawn_wheel encW
  clear rtr rtr2 rsh rwo r1 r3 hs h1 hb hc hd
  generalize dLc (iRange1 (aCons (dVar 2) aNil)) (gmName 5) (retB true) (needS 0 (dCallS 2 m_marks [] 0 (aCons (dVar 1) aNil))) [5] = G1 at c1 ⊢
  generalize ifS (andB (toB (dOp oEq (dVar 2) (dC (.int 2)))) _) _ nxS = G2 at c2 ⊢
  generalize dLc (iRange1 (aCons (dVar 2) aNil)) (gmName 5) (retB true) (needS 0 (dCallS 2 m_of [] 0 _)) [5] = G3 at c3 ⊢
  generalize ifV (toB (dOp oEq (needS 0 (dCallS 2 m_draw [] 0 (aCons (dC (.int 8)) aNil))) (dC (.int 0)))) _ _ = G4 at c4 ⊢
  decreasing_trivial
end DS
namespace DS
def sm_Wheel_many : SM := (retS (dCall fLen (aCons (dUn (oFld [0] 0) (dVar 0)) aNil)))
def m_Wheel_many : List D → Option (R × List D) := runD 1 sm_Wheel_many
end DS
namespace DS
local macro_rules | `(tactic| decreasing_trivial) => `(tactic| simp only [ev_runD, ev_fin_nx, ev_fin_rt, ev_fin_ex, ev_outs_nil, ev_outs_pin, ev_outs_non, ev_outs_bl, ev_outs_int, ev_outs_str, ev_outs_tup, ev_outs_lst, ev_outs_dic, ev_outs_ins, ev_startD, ev_seqS, ev_nxS, ev_bkS, ev_ctS, ev_retN, ev_bS, ev_dropS, ev_retS, ev_retO, ev_ifS, ev_setS, ev_setO, ev_toS, ev_putS, ev_freeSl, np_none, np_own, np_pin, np_non, np_bl, np_int, np_str, np_tup, np_lst, np_dic, np_ins, sh_non, sh_bl, sh_int, sh_str, sh_tup, sh_lst, sh_dic, sh_ins, sh_own, sh_pin, ev_lift, ev_liftN, ev_bE, ev_bB, ev_bA, ev_cB, ev_cBB, ev_retB, ev_dVar, ev_dC, ev_dOp, ev_dUn, ev_toB, ev_truB, ev_notB, ev_andB, ev_orB, ev_andV, ev_orV, ev_notV, ev_ifV, ev_chainV, ev_isNonV, ev_notNonV, ev_aNil, ev_aCons, ev_aStar, ev_shs_nil, ev_shs, shs_app, ev_bL, ev_dTup, ev_dLst, ev_dCall, ev_dCallN, ev_dCallNO, ev_dFrz, frz_lst, frz_dic, frz_ins, ev_dVarF, ev_retV, ev_asgS, ev_gmName, ev_gmTup, ev_gmNil, ev_gmCons, ev_forS, ev_liftI, ev_bIE, ev_bIA, ev_iSeq, ev_seq_lst, ev_seq_tup, ev_seq_str, ev_items_lst, ev_items_tup, ev_iRange1, ev_iRange2, ev_dSlice, ev_optN, ev_optS, ev_altE, ev_isiD, ev_isiT, kd_non, kd_bl, kd_int, kd_str, kd_tup, kd_lst, kd_dic, kd_ins, tab_bb, tab_bo, tab_ob, tab_oo, cd0, cd1, cd2, cd3, cd4, cd5, cd6, tru_non, tru_bl, tru_int, tru_str, tru_lst, tru_tup, len_str, len_lst, len_tup, o_sub, o_lt, o_le, o_gt, o_ge, o_mod, o_div, o_neg, o_addI, o_addS, o_addL, o_addT, o_isB, o_notB, o_eqI, o_neI, o_eqS, o_neS, o_eqB, o_neB, o_eqNI, o_eqIN, o_inS, o_ixL, o_ixT, o_ixS, atD_0, atD_1, atD_2, atD_3, atD_4, listA_lst, listA_tup, fInt_int, ev_slIns, ev_dFldS, ev_fldS, ev_slInsPut, putFD_nil, putFD_cons, ev_oFld, ev_slLst, ev_slPut, ev_dIxS, ev_lenS, ev_appS, ev_stoS, ev_dMethS, ev_dMethSO, ev_onS, ev_callS0, ev_onC, ev_isC, ev_callM, ev_callMO, ev_dMeth, ev_dMethO, ev_dProp, ev_dMakeA, pxD_nil, pxD_cons, ev_xNil, ev_xCons, ev_xOwn, putXs_nil, putXs_sh, putXs_ow, ev_parX, ev_iEnumAD, o_mulI, o_mulL, ev_needS, ev_dCallS, ev_callS, ev_aSlot, ev_dCallB, ev_callB, lent_nil, lent_sh, lent_sl, scal_bl, ev_starM, ev_take0, ev_take1, ev_drop0, ev_drop1, ev_dCallStar, ev_dMethStar, ev_dMakeN, ev_isk_int, ev_isk_str, ev_keyT, ev_slDic, ev_slPutD, ev_dInS, ev_dPutS, ev_dicOf, ev_dGet2P, ev_aStarVals, ev_clrS, ev_clrT, List.getElem?_cons_zero, List.getElem?_cons_succ, List.getElem?_nil, List.set_cons_zero, List.set_cons_succ, List.set_nil, List.map_cons, List.map_nil, List.cons_append, List.nil_append, List.length_cons, List.length_nil, Option.map_some, Option.map_none, reduceIte, if_true, ite_true, ite_false, if_false, Bool.and_true, Bool.true_and, Bool.and_false, Bool.false_and, Bool.or_true, Bool.true_or, Bool.or_false, Bool.false_or, Bool.not_true, Bool.not_false, Bool.true_eq_false, Bool.false_eq_true, decide_true, decide_false, Nat.reduceAdd, Nat.reduceSub, Nat.reduceMul, Nat.reduceLeDiff, Nat.reduceLT, Nat.reduceEqDiff, Nat.reduceBEq, Int.reduceLT, Int.reduceLE, Int.reduceEq, Int.reduceAdd, Int.reduceSub, Int.reduceBEq, List.reduceReplicate, List.contains_cons, List.contains_nil, List.lookup_cons, Option.isSome_some, Option.isSome_none, beq_self_eq_true, bne_self_eq_false, List.all_cons, List.all_nil, List.any_cons, List.any_nil, Nat.zero_add, List.append_nil, and_true, true_and, and_self, decide_eq_true_eq, Nat.reduceDiv, Int.toNat_natCast, List.getD_cons_zero, List.getD_cons_succ, Int.cast_ofNat_Int, Int.natCast_zero, Nat.le_refl, Nat.reduceBNe, Int.reduceBNe, Bool.and_self, Bool.or_self, not_true_eq_false, not_false_eq_true, ne_eq, reduceCtorEq, *])
/-! ### deeds, rows, tables -/
inductive Deed where
  | alarm | skip | add (n : Int) | home (c : Nat)
  deriving DecidableEq
def Deed.Ok : Deed → Prop
  | .add n => -6 ≤ n ∧ n ≤ 6
  | .home c => c ≤ 11
  | _ => True
def encD : Deed → D
  | .alarm => .tup [.str [97, 108, 97, 114, 109]]
  | .skip => .tup [.str [115, 107, 105, 112]]
  | .add n => .tup [.str [97, 100, 100], .int n]
  | .home c => .tup [.str [104, 111, 109, 101], .int c]
structure Rw where
  a : List Nat
  b : List Nat
  d : Deed
def encR (r : Rw) : D := .tup [.str r.a, .str r.b, encD r.d]
def rowsL (l : List Rw) : List D := l.map encR
structure TM where
  many : Nat
  rows : List Rw
  dfl : Deed
def Rw.Ok (many : Nat) (r : Rw) : Prop := (r.a.length = many ∧ marks r.a = true) ∧ (r.b.length = many ∧ marks r.b = true) ∧ r.d.Ok
structure TM.Ok (t : TM) : Prop where
  m1 : 1 ≤ t.many
  m3 : t.many ≤ 3
  rw_ : ∀ r ∈ t.rows, r.Ok t.many
  nd : (t.rows.map fun r => (r.a, r.b)).Nodup
  le : t.rows.length ≤ 64
  df : t.dfl.Ok
def encT (t : TM) : D := .tup [.int t.many, .lst (rowsL t.rows), encD t.dfl]
def kvR (r : Rw) : D × D := (.tup [.str r.a, .str r.b], encD r.d)
def tableD (t : TM) : D := .ins 1 [(4, .int t.many), (5, .dic true (t.rows.map kvR)), (6, encD t.dfl)]
@[simp] theorem encD_sh (d : Deed) : (encD d).sh = true := by cases d <;> rfl
@[simp] theorem encD_np (d : Deed) : npin (some (encD d)) = true := by cases d <;> rfl
/-! ### the dict's look up -/
def TM.at (t : TM) (a b : List Nat) : Deed := ((t.rows.find? fun r => decide (r.a = a) && decide (r.b = b)).map Rw.d).getD t.dfl
/-! ### a table is made -/
end DS
namespace DS
local macro_rules | `(tactic| decreasing_trivial) => `(tactic| simp only [ev_runD, ev_fin_nx, ev_fin_rt, ev_fin_ex, ev_outs_nil, ev_outs_pin, ev_outs_non, ev_outs_bl, ev_outs_int, ev_outs_str, ev_outs_tup, ev_outs_lst, ev_outs_dic, ev_outs_ins, ev_startD, ev_seqS, ev_nxS, ev_bkS, ev_ctS, ev_retN, ev_bS, ev_dropS, ev_retS, ev_retO, ev_ifS, ev_setS, ev_setO, ev_toS, ev_putS, ev_freeSl, np_none, np_own, np_pin, np_non, np_bl, np_int, np_str, np_tup, np_lst, np_dic, np_ins, sh_non, sh_bl, sh_int, sh_str, sh_tup, sh_lst, sh_dic, sh_ins, sh_own, sh_pin, ev_lift, ev_liftN, ev_bE, ev_bB, ev_bA, ev_cB, ev_cBB, ev_retB, ev_dVar, ev_dC, ev_dOp, ev_dUn, ev_toB, ev_truB, ev_notB, ev_andB, ev_orB, ev_andV, ev_orV, ev_notV, ev_ifV, ev_chainV, ev_isNonV, ev_notNonV, ev_aNil, ev_aCons, ev_aStar, ev_shs_nil, ev_shs, shs_app, ev_bL, ev_dTup, ev_dLst, ev_dCall, ev_dCallN, ev_dCallNO, ev_dFrz, frz_lst, frz_dic, frz_ins, ev_dVarF, ev_retV, ev_asgS, ev_gmName, ev_gmTup, ev_gmNil, ev_gmCons, ev_forS, ev_liftI, ev_bIE, ev_bIA, ev_iSeq, ev_seq_lst, ev_seq_tup, ev_seq_str, ev_items_lst, ev_items_tup, ev_iRange1, ev_iRange2, ev_dSlice, ev_optN, ev_optS, ev_altE, ev_isiD, ev_isiT, kd_non, kd_bl, kd_int, kd_str, kd_tup, kd_lst, kd_dic, kd_ins, tab_bb, tab_bo, tab_ob, tab_oo, cd0, cd1, cd2, cd3, cd4, cd5, cd6, tru_non, tru_bl, tru_int, tru_str, tru_lst, tru_tup, len_str, len_lst, len_tup, o_sub, o_lt, o_le, o_gt, o_ge, o_mod, o_div, o_neg, o_addI, o_addS, o_addL, o_addT, o_isB, o_notB, o_eqI, o_neI, o_eqS, o_neS, o_eqB, o_neB, o_eqNI, o_eqIN, o_inS, o_ixL, o_ixT, o_ixS, atD_0, atD_1, atD_2, atD_3, atD_4, listA_lst, listA_tup, fInt_int, ev_slIns, ev_dFldS, ev_fldS, ev_slInsPut, putFD_nil, putFD_cons, ev_oFld, ev_slLst, ev_slPut, ev_dIxS, ev_lenS, ev_appS, ev_stoS, ev_dMethS, ev_dMethSO, ev_onS, ev_callS0, ev_onC, ev_isC, ev_callM, ev_callMO, ev_dMeth, ev_dMethO, ev_dProp, ev_dMakeA, pxD_nil, pxD_cons, ev_xNil, ev_xCons, ev_xOwn, putXs_nil, putXs_sh, putXs_ow, ev_parX, ev_iEnumAD, o_mulI, o_mulL, ev_needS, ev_dCallS, ev_callS, ev_aSlot, ev_dCallB, ev_callB, lent_nil, lent_sh, lent_sl, scal_bl, ev_starM, ev_take0, ev_take1, ev_drop0, ev_drop1, ev_dCallStar, ev_dMethStar, ev_dMakeN, ev_isk_int, ev_isk_str, ev_keyT, ev_slDic, ev_slPutD, ev_dInS, ev_dPutS, ev_dicOf, ev_dGet2P, ev_aStarVals, ev_clrS, ev_clrT, List.getElem?_cons_zero, List.getElem?_cons_succ, List.getElem?_nil, List.set_cons_zero, List.set_cons_succ, List.set_nil, List.map_cons, List.map_nil, List.cons_append, List.nil_append, List.length_cons, List.length_nil, Option.map_some, Option.map_none, reduceIte, if_true, ite_true, ite_false, if_false, Bool.and_true, Bool.true_and, Bool.and_false, Bool.false_and, Bool.or_true, Bool.true_or, Bool.or_false, Bool.false_or, Bool.not_true, Bool.not_false, Bool.true_eq_false, Bool.false_eq_true, decide_true, decide_false, Nat.reduceAdd, Nat.reduceSub, Nat.reduceMul, Nat.reduceLeDiff, Nat.reduceLT, Nat.reduceEqDiff, Nat.reduceBEq, Int.reduceLT, Int.reduceLE, Int.reduceEq, Int.reduceAdd, Int.reduceSub, Int.reduceBEq, List.reduceReplicate, List.contains_cons, List.contains_nil, List.lookup_cons, Option.isSome_some, Option.isSome_none, beq_self_eq_true, bne_self_eq_false, List.all_cons, List.all_nil, List.any_cons, List.any_nil, Nat.zero_add, List.append_nil, and_true, true_and, and_self, decide_eq_true_eq, Nat.reduceDiv, Int.toNat_natCast, List.getD_cons_zero, List.getD_cons_succ, Int.cast_ofNat_Int, Int.natCast_zero, Nat.le_refl, Nat.reduceBNe, Int.reduceBNe, Bool.and_self, Bool.or_self, not_true_eq_false, not_false_eq_true, ne_eq, reduceCtorEq, *])
/-! ### what tables answer -/
def isHome : Deed → Bool
  | .home _ => true
  | _ => false
def TM.home (t : TM) : Bool := (t.dfl :: t.rows.map Rw.d).any isHome
theorem wheel_many {W : WM} {sz many : Nat} (h : W.Ok sz many) : m_Wheel_many [wheelD W sz] = some (.ok (.int many), []) := by
  have e : ((strL W.tr).length : Int) = many := by rw [strL_len, h.len]
  unfold m_Wheel_many sm_Wheel_many wheelD
  clear h
  generalize cellsD W sz = C
  decreasing_trivial
/-! ### the law's own -/
end DS
namespace DS
local macro_rules | `(tactic| decreasing_trivial) => `(tactic| simp only [ev_runD, ev_fin_nx, ev_fin_rt, ev_fin_ex, ev_outs_nil, ev_outs_pin, ev_outs_non, ev_outs_bl, ev_outs_int, ev_outs_str, ev_outs_tup, ev_outs_lst, ev_outs_dic, ev_outs_ins, ev_startD, ev_seqS, ev_nxS, ev_bkS, ev_ctS, ev_retN, ev_bS, ev_dropS, ev_retS, ev_retO, ev_ifS, ev_setS, ev_setO, ev_toS, ev_putS, ev_freeSl, np_none, np_own, np_pin, np_non, np_bl, np_int, np_str, np_tup, np_lst, np_dic, np_ins, sh_non, sh_bl, sh_int, sh_str, sh_tup, sh_lst, sh_dic, sh_ins, sh_own, sh_pin, ev_lift, ev_liftN, ev_bE, ev_bB, ev_bA, ev_cB, ev_cBB, ev_retB, ev_dVar, ev_dC, ev_dOp, ev_dUn, ev_toB, ev_truB, ev_notB, ev_andB, ev_orB, ev_andV, ev_orV, ev_notV, ev_ifV, ev_chainV, ev_isNonV, ev_notNonV, ev_aNil, ev_aCons, ev_aStar, ev_shs_nil, ev_shs, shs_app, ev_bL, ev_dTup, ev_dLst, ev_dCall, ev_dCallN, ev_dCallNO, ev_dFrz, frz_lst, frz_dic, frz_ins, ev_dVarF, ev_retV, ev_asgS, ev_gmName, ev_gmTup, ev_gmNil, ev_gmCons, ev_forS, ev_liftI, ev_bIE, ev_bIA, ev_iSeq, ev_seq_lst, ev_seq_tup, ev_seq_str, ev_items_lst, ev_items_tup, ev_iRange1, ev_iRange2, ev_dSlice, ev_optN, ev_optS, ev_altE, ev_isiD, ev_isiT, kd_non, kd_bl, kd_int, kd_str, kd_tup, kd_lst, kd_dic, kd_ins, tab_bb, tab_bo, tab_ob, tab_oo, cd0, cd1, cd2, cd3, cd4, cd5, cd6, tru_non, tru_bl, tru_int, tru_str, tru_lst, tru_tup, len_str, len_lst, len_tup, o_sub, o_lt, o_le, o_gt, o_ge, o_mod, o_div, o_neg, o_addI, o_addS, o_addL, o_addT, o_isB, o_notB, o_eqI, o_neI, o_eqS, o_neS, o_eqB, o_neB, o_eqNI, o_eqIN, o_inS, o_ixL, o_ixT, o_ixS, atD_0, atD_1, atD_2, atD_3, atD_4, listA_lst, listA_tup, fInt_int, ev_slIns, ev_dFldS, ev_fldS, ev_slInsPut, putFD_nil, putFD_cons, ev_oFld, ev_slLst, ev_slPut, ev_dIxS, ev_lenS, ev_appS, ev_stoS, ev_dMethS, ev_dMethSO, ev_onS, ev_callS0, ev_onC, ev_isC, ev_callM, ev_callMO, ev_dMeth, ev_dMethO, ev_dProp, ev_dMakeA, pxD_nil, pxD_cons, ev_xNil, ev_xCons, ev_xOwn, putXs_nil, putXs_sh, putXs_ow, ev_parX, ev_iEnumAD, o_mulI, o_mulL, ev_needS, ev_dCallS, ev_callS, ev_aSlot, ev_dCallB, ev_callB, lent_nil, lent_sh, lent_sl, scal_bl, ev_starM, ev_take0, ev_take1, ev_drop0, ev_drop1, ev_dCallStar, ev_dMethStar, ev_dMakeN, ev_isk_int, ev_isk_str, ev_keyT, ev_slDic, ev_slPutD, ev_dInS, ev_dPutS, ev_dicOf, ev_dGet2P, ev_aStarVals, ev_clrS, ev_clrT, List.getElem?_cons_zero, List.getElem?_cons_succ, List.getElem?_nil, List.set_cons_zero, List.set_cons_succ, List.set_nil, List.map_cons, List.map_nil, List.cons_append, List.nil_append, List.length_cons, List.length_nil, Option.map_some, Option.map_none, reduceIte, if_true, ite_true, ite_false, if_false, Bool.and_true, Bool.true_and, Bool.and_false, Bool.false_and, Bool.or_true, Bool.true_or, Bool.or_false, Bool.false_or, Bool.not_true, Bool.not_false, Bool.true_eq_false, Bool.false_eq_true, decide_true, decide_false, Nat.reduceAdd, Nat.reduceSub, Nat.reduceMul, Nat.reduceLeDiff, Nat.reduceLT, Nat.reduceEqDiff, Nat.reduceBEq, Int.reduceLT, Int.reduceLE, Int.reduceEq, Int.reduceAdd, Int.reduceSub, Int.reduceBEq, List.reduceReplicate, List.contains_cons, List.contains_nil, List.lookup_cons, Option.isSome_some, Option.isSome_none, beq_self_eq_true, bne_self_eq_false, List.all_cons, List.all_nil, List.any_cons, List.any_nil, Nat.zero_add, List.append_nil, and_true, true_and, and_self, decide_eq_true_eq, Nat.reduceDiv, Int.toNat_natCast, List.getD_cons_zero, List.getD_cons_succ, Int.cast_ofNat_Int, Int.natCast_zero, Nat.le_refl, Nat.reduceBNe, Int.reduceBNe, Bool.and_self, Bool.or_self, not_true_eq_false, not_false_eq_true, ne_eq, reduceCtorEq, *])
/-! ### the deed of a pair; home -/
end DS
namespace DS
local macro_rules | `(tactic| decreasing_trivial) => `(tactic| simp only [ev_runD, ev_fin_nx, ev_fin_rt, ev_fin_ex, ev_outs_nil, ev_outs_pin, ev_outs_non, ev_outs_bl, ev_outs_int, ev_outs_str, ev_outs_tup, ev_outs_lst, ev_outs_dic, ev_outs_ins, ev_startD, ev_seqS, ev_nxS, ev_bkS, ev_ctS, ev_retN, ev_bS, ev_dropS, ev_retS, ev_retO, ev_ifS, ev_setS, ev_setO, ev_toS, ev_putS, ev_freeSl, np_none, np_own, np_pin, np_non, np_bl, np_int, np_str, np_tup, np_lst, np_dic, np_ins, sh_non, sh_bl, sh_int, sh_str, sh_tup, sh_lst, sh_dic, sh_ins, sh_own, sh_pin, ev_lift, ev_liftN, ev_bE, ev_bB, ev_bA, ev_cB, ev_cBB, ev_retB, ev_dVar, ev_dC, ev_dOp, ev_dUn, ev_toB, ev_truB, ev_notB, ev_andB, ev_orB, ev_andV, ev_orV, ev_notV, ev_ifV, ev_chainV, ev_isNonV, ev_notNonV, ev_aNil, ev_aCons, ev_aStar, ev_shs_nil, ev_shs, shs_app, ev_bL, ev_dTup, ev_dLst, ev_dCall, ev_dCallN, ev_dCallNO, ev_dFrz, frz_lst, frz_dic, frz_ins, ev_dVarF, ev_retV, ev_asgS, ev_gmName, ev_gmTup, ev_gmNil, ev_gmCons, ev_forS, ev_liftI, ev_bIE, ev_bIA, ev_iSeq, ev_seq_lst, ev_seq_tup, ev_seq_str, ev_items_lst, ev_items_tup, ev_iRange1, ev_iRange2, ev_dSlice, ev_optN, ev_optS, ev_altE, ev_isiD, ev_isiT, kd_non, kd_bl, kd_int, kd_str, kd_tup, kd_lst, kd_dic, kd_ins, tab_bb, tab_bo, tab_ob, tab_oo, cd0, cd1, cd2, cd3, cd4, cd5, cd6, tru_non, tru_bl, tru_int, tru_str, tru_lst, tru_tup, len_str, len_lst, len_tup, o_sub, o_lt, o_le, o_gt, o_ge, o_mod, o_div, o_neg, o_addI, o_addS, o_addL, o_addT, o_isB, o_notB, o_eqI, o_neI, o_eqS, o_neS, o_eqB, o_neB, o_eqNI, o_eqIN, o_inS, o_ixL, o_ixT, o_ixS, atD_0, atD_1, atD_2, atD_3, atD_4, listA_lst, listA_tup, fInt_int, ev_slIns, ev_dFldS, ev_fldS, ev_slInsPut, putFD_nil, putFD_cons, ev_oFld, ev_slLst, ev_slPut, ev_dIxS, ev_lenS, ev_appS, ev_stoS, ev_dMethS, ev_dMethSO, ev_onS, ev_callS0, ev_onC, ev_isC, ev_callM, ev_callMO, ev_dMeth, ev_dMethO, ev_dProp, ev_dMakeA, pxD_nil, pxD_cons, ev_xNil, ev_xCons, ev_xOwn, putXs_nil, putXs_sh, putXs_ow, ev_parX, ev_iEnumAD, o_mulI, o_mulL, ev_needS, ev_dCallS, ev_callS, ev_aSlot, ev_dCallB, ev_callB, lent_nil, lent_sh, lent_sl, scal_bl, ev_starM, ev_take0, ev_take1, ev_drop0, ev_drop1, ev_dCallStar, ev_dMethStar, ev_dMakeN, ev_isk_int, ev_isk_str, ev_keyT, ev_slDic, ev_slPutD, ev_dInS, ev_dPutS, ev_dicOf, ev_dGet2P, ev_aStarVals, ev_clrS, ev_clrT, List.getElem?_cons_zero, List.getElem?_cons_succ, List.getElem?_nil, List.set_cons_zero, List.set_cons_succ, List.set_nil, List.map_cons, List.map_nil, List.cons_append, List.nil_append, List.length_cons, List.length_nil, Option.map_some, Option.map_none, reduceIte, if_true, ite_true, ite_false, if_false, Bool.and_true, Bool.true_and, Bool.and_false, Bool.false_and, Bool.or_true, Bool.true_or, Bool.or_false, Bool.false_or, Bool.not_true, Bool.not_false, Bool.true_eq_false, Bool.false_eq_true, decide_true, decide_false, Nat.reduceAdd, Nat.reduceSub, Nat.reduceMul, Nat.reduceLeDiff, Nat.reduceLT, Nat.reduceEqDiff, Nat.reduceBEq, Int.reduceLT, Int.reduceLE, Int.reduceEq, Int.reduceAdd, Int.reduceSub, Int.reduceBEq, List.reduceReplicate, List.contains_cons, List.contains_nil, List.lookup_cons, Option.isSome_some, Option.isSome_none, beq_self_eq_true, bne_self_eq_false, List.all_cons, List.all_nil, List.any_cons, List.any_nil, Nat.zero_add, List.append_nil, and_true, true_and, and_self, decide_eq_true_eq, Nat.reduceDiv, Int.toNat_natCast, List.getD_cons_zero, List.getD_cons_succ, Int.cast_ofNat_Int, Int.natCast_zero, Nat.le_refl, Nat.reduceBNe, Int.reduceBNe, Bool.and_self, Bool.or_self, not_true_eq_false, not_false_eq_true, ne_eq, reduceCtorEq, *])
/-! ### the law's own way home -/
end DS
namespace DS
local macro_rules | `(tactic| decreasing_trivial) => `(tactic| simp only [ev_runD, ev_fin_nx, ev_fin_rt, ev_fin_ex, ev_outs_nil, ev_outs_pin, ev_outs_non, ev_outs_bl, ev_outs_int, ev_outs_str, ev_outs_tup, ev_outs_lst, ev_outs_dic, ev_outs_ins, ev_startD, ev_seqS, ev_nxS, ev_bkS, ev_ctS, ev_retN, ev_bS, ev_dropS, ev_retS, ev_retO, ev_ifS, ev_setS, ev_setO, ev_toS, ev_putS, ev_freeSl, np_none, np_own, np_pin, np_non, np_bl, np_int, np_str, np_tup, np_lst, np_dic, np_ins, sh_non, sh_bl, sh_int, sh_str, sh_tup, sh_lst, sh_dic, sh_ins, sh_own, sh_pin, ev_lift, ev_liftN, ev_bE, ev_bB, ev_bA, ev_cB, ev_cBB, ev_retB, ev_dVar, ev_dC, ev_dOp, ev_dUn, ev_toB, ev_truB, ev_notB, ev_andB, ev_orB, ev_andV, ev_orV, ev_notV, ev_ifV, ev_chainV, ev_isNonV, ev_notNonV, ev_aNil, ev_aCons, ev_aStar, ev_shs_nil, ev_shs, shs_app, ev_bL, ev_dTup, ev_dLst, ev_dCall, ev_dCallN, ev_dCallNO, ev_dFrz, frz_lst, frz_dic, frz_ins, ev_dVarF, ev_retV, ev_asgS, ev_gmName, ev_gmTup, ev_gmNil, ev_gmCons, ev_forS, ev_liftI, ev_bIE, ev_bIA, ev_iSeq, ev_seq_lst, ev_seq_tup, ev_seq_str, ev_items_lst, ev_items_tup, ev_iRange1, ev_iRange2, ev_dSlice, ev_optN, ev_optS, ev_altE, ev_isiD, ev_isiT, kd_non, kd_bl, kd_int, kd_str, kd_tup, kd_lst, kd_dic, kd_ins, tab_bb, tab_bo, tab_ob, tab_oo, cd0, cd1, cd2, cd3, cd4, cd5, cd6, tru_non, tru_bl, tru_int, tru_str, tru_lst, tru_tup, len_str, len_lst, len_tup, o_sub, o_lt, o_le, o_gt, o_ge, o_mod, o_div, o_neg, o_addI, o_addS, o_addL, o_addT, o_isB, o_notB, o_eqI, o_neI, o_eqS, o_neS, o_eqB, o_neB, o_eqNI, o_eqIN, o_inS, o_ixL, o_ixT, o_ixS, atD_0, atD_1, atD_2, atD_3, atD_4, listA_lst, listA_tup, fInt_int, ev_slIns, ev_dFldS, ev_fldS, ev_slInsPut, putFD_nil, putFD_cons, ev_oFld, ev_slLst, ev_slPut, ev_dIxS, ev_lenS, ev_appS, ev_stoS, ev_dMethS, ev_dMethSO, ev_onS, ev_callS0, ev_onC, ev_isC, ev_callM, ev_callMO, ev_dMeth, ev_dMethO, ev_dProp, ev_dMakeA, pxD_nil, pxD_cons, ev_xNil, ev_xCons, ev_xOwn, putXs_nil, putXs_sh, putXs_ow, ev_parX, ev_iEnumAD, o_mulI, o_mulL, ev_needS, ev_dCallS, ev_callS, ev_aSlot, ev_dCallB, ev_callB, lent_nil, lent_sh, lent_sl, scal_bl, ev_starM, ev_take0, ev_take1, ev_drop0, ev_drop1, ev_dCallStar, ev_dMethStar, ev_dMakeN, ev_isk_int, ev_isk_str, ev_keyT, ev_slDic, ev_slPutD, ev_dInS, ev_dPutS, ev_dicOf, ev_dGet2P, ev_aStarVals, ev_clrS, ev_clrT, List.getElem?_cons_zero, List.getElem?_cons_succ, List.getElem?_nil, List.set_cons_zero, List.set_cons_succ, List.set_nil, List.map_cons, List.map_nil, List.cons_append, List.nil_append, List.length_cons, List.length_nil, Option.map_some, Option.map_none, reduceIte, if_true, ite_true, ite_false, if_false, Bool.and_true, Bool.true_and, Bool.and_false, Bool.false_and, Bool.or_true, Bool.true_or, Bool.or_false, Bool.false_or, Bool.not_true, Bool.not_false, Bool.true_eq_false, Bool.false_eq_true, decide_true, decide_false, Nat.reduceAdd, Nat.reduceSub, Nat.reduceMul, Nat.reduceLeDiff, Nat.reduceLT, Nat.reduceEqDiff, Nat.reduceBEq, Int.reduceLT, Int.reduceLE, Int.reduceEq, Int.reduceAdd, Int.reduceSub, Int.reduceBEq, List.reduceReplicate, List.contains_cons, List.contains_nil, List.lookup_cons, Option.isSome_some, Option.isSome_none, beq_self_eq_true, bne_self_eq_false, List.all_cons, List.all_nil, List.any_cons, List.any_nil, Nat.zero_add, List.append_nil, and_true, true_and, and_self, decide_eq_true_eq, Nat.reduceDiv, Int.toNat_natCast, List.getD_cons_zero, List.getD_cons_succ, Int.cast_ofNat_Int, Int.natCast_zero, Nat.le_refl, Nat.reduceBNe, Int.reduceBNe, Bool.and_self, Bool.or_self, not_true_eq_false, not_false_eq_true, ne_eq, reduceCtorEq, *])
/-! ### rigs -/
structure RM where
  W : WM
  t : TM
  back : Nat
  forth : Nat
  pat : Nat
structure RM.Ok (R : RM) (sz many : Nat) : Prop where
  w : R.W.Ok sz many
  t : R.t.Ok
  tm : R.t.many = many
  b6 : R.back ≤ 6
  f6 : R.forth ≤ 6
  p1 : 1 ≤ R.pat
  p3 : R.pat ≤ 3
def encRig (R : RM) : D := .tup [encW R.W, encT R.t, .int R.back, .int R.forth, .int R.pat]
def paceD (R : RM) : D := .tup [.int R.back, .int R.forth, .int R.pat]
def rigD (R : RM) (sz : Nat) : D := .ins 2 [(7, wheelD R.W sz), (8, tableD R.t), (9, paceD R)]
/-! ### sights are texts of marks -/
/-! ### starts -/
def stD0 : D → D
  | .str t => .tup [.int 0, .int 0, .str t, .str [], .int 0]
  | _ => .non
def startsM (W : WM) : D := .lst ((strL (sightsM W 0)).map stD0)
end DS
namespace DS
local macro_rules | `(tactic| decreasing_trivial) => `(tactic| simp only [ev_runD, ev_fin_nx, ev_fin_rt, ev_fin_ex, ev_outs_nil, ev_outs_pin, ev_outs_non, ev_outs_bl, ev_outs_int, ev_outs_str, ev_outs_tup, ev_outs_lst, ev_outs_dic, ev_outs_ins, ev_startD, ev_seqS, ev_nxS, ev_bkS, ev_ctS, ev_retN, ev_bS, ev_dropS, ev_retS, ev_retO, ev_ifS, ev_setS, ev_setO, ev_toS, ev_putS, ev_freeSl, np_none, np_own, np_pin, np_non, np_bl, np_int, np_str, np_tup, np_lst, np_dic, np_ins, sh_non, sh_bl, sh_int, sh_str, sh_tup, sh_lst, sh_dic, sh_ins, sh_own, sh_pin, ev_lift, ev_liftN, ev_bE, ev_bB, ev_bA, ev_cB, ev_cBB, ev_retB, ev_dVar, ev_dC, ev_dOp, ev_dUn, ev_toB, ev_truB, ev_notB, ev_andB, ev_orB, ev_andV, ev_orV, ev_notV, ev_ifV, ev_chainV, ev_isNonV, ev_notNonV, ev_aNil, ev_aCons, ev_aStar, ev_shs_nil, ev_shs, shs_app, ev_bL, ev_dTup, ev_dLst, ev_dCall, ev_dCallN, ev_dCallNO, ev_dFrz, frz_lst, frz_dic, frz_ins, ev_dVarF, ev_retV, ev_asgS, ev_gmName, ev_gmTup, ev_gmNil, ev_gmCons, ev_forS, ev_liftI, ev_bIE, ev_bIA, ev_iSeq, ev_seq_lst, ev_seq_tup, ev_seq_str, ev_items_lst, ev_items_tup, ev_iRange1, ev_iRange2, ev_dSlice, ev_optN, ev_optS, ev_altE, ev_isiD, ev_isiT, kd_non, kd_bl, kd_int, kd_str, kd_tup, kd_lst, kd_dic, kd_ins, tab_bb, tab_bo, tab_ob, tab_oo, cd0, cd1, cd2, cd3, cd4, cd5, cd6, tru_non, tru_bl, tru_int, tru_str, tru_lst, tru_tup, len_str, len_lst, len_tup, o_sub, o_lt, o_le, o_gt, o_ge, o_mod, o_div, o_neg, o_addI, o_addS, o_addL, o_addT, o_isB, o_notB, o_eqI, o_neI, o_eqS, o_neS, o_eqB, o_neB, o_eqNI, o_eqIN, o_inS, o_ixL, o_ixT, o_ixS, atD_0, atD_1, atD_2, atD_3, atD_4, listA_lst, listA_tup, fInt_int, ev_slIns, ev_dFldS, ev_fldS, ev_slInsPut, putFD_nil, putFD_cons, ev_oFld, ev_slLst, ev_slPut, ev_dIxS, ev_lenS, ev_appS, ev_stoS, ev_dMethS, ev_dMethSO, ev_onS, ev_callS0, ev_onC, ev_isC, ev_callM, ev_callMO, ev_dMeth, ev_dMethO, ev_dProp, ev_dMakeA, pxD_nil, pxD_cons, ev_xNil, ev_xCons, ev_xOwn, putXs_nil, putXs_sh, putXs_ow, ev_parX, ev_iEnumAD, o_mulI, o_mulL, ev_needS, ev_dCallS, ev_callS, ev_aSlot, ev_dCallB, ev_callB, lent_nil, lent_sh, lent_sl, scal_bl, ev_starM, ev_take0, ev_take1, ev_drop0, ev_drop1, ev_dCallStar, ev_dMethStar, ev_dMakeN, ev_isk_int, ev_isk_str, ev_keyT, ev_slDic, ev_slPutD, ev_dInS, ev_dPutS, ev_dicOf, ev_dGet2P, ev_aStarVals, ev_clrS, ev_clrT, List.getElem?_cons_zero, List.getElem?_cons_succ, List.getElem?_nil, List.set_cons_zero, List.set_cons_succ, List.set_nil, List.map_cons, List.map_nil, List.cons_append, List.nil_append, List.length_cons, List.length_nil, Option.map_some, Option.map_none, reduceIte, if_true, ite_true, ite_false, if_false, Bool.and_true, Bool.true_and, Bool.and_false, Bool.false_and, Bool.or_true, Bool.true_or, Bool.or_false, Bool.false_or, Bool.not_true, Bool.not_false, Bool.true_eq_false, Bool.false_eq_true, decide_true, decide_false, Nat.reduceAdd, Nat.reduceSub, Nat.reduceMul, Nat.reduceLeDiff, Nat.reduceLT, Nat.reduceEqDiff, Nat.reduceBEq, Int.reduceLT, Int.reduceLE, Int.reduceEq, Int.reduceAdd, Int.reduceSub, Int.reduceBEq, List.reduceReplicate, List.contains_cons, List.contains_nil, List.lookup_cons, Option.isSome_some, Option.isSome_none, beq_self_eq_true, bne_self_eq_false, List.all_cons, List.all_nil, List.any_cons, List.any_nil, Nat.zero_add, List.append_nil, and_true, true_and, and_self, decide_eq_true_eq, Nat.reduceDiv, Int.toNat_natCast, List.getD_cons_zero, List.getD_cons_succ, Int.cast_ofNat_Int, Int.natCast_zero, Nat.le_refl, Nat.reduceBNe, Int.reduceBNe, Bool.and_self, Bool.or_self, not_true_eq_false, not_false_eq_true, ne_eq, reduceCtorEq, *])
/-! ### steps -/
end DS
namespace DS
local macro_rules | `(tactic| decreasing_trivial) => `(tactic| simp only [ev_runD, ev_fin_nx, ev_fin_rt, ev_fin_ex, ev_outs_nil, ev_outs_pin, ev_outs_non, ev_outs_bl, ev_outs_int, ev_outs_str, ev_outs_tup, ev_outs_lst, ev_outs_dic, ev_outs_ins, ev_startD, ev_seqS, ev_nxS, ev_bkS, ev_ctS, ev_retN, ev_bS, ev_dropS, ev_retS, ev_retO, ev_ifS, ev_setS, ev_setO, ev_toS, ev_putS, ev_freeSl, np_none, np_own, np_pin, np_non, np_bl, np_int, np_str, np_tup, np_lst, np_dic, np_ins, sh_non, sh_bl, sh_int, sh_str, sh_tup, sh_lst, sh_dic, sh_ins, sh_own, sh_pin, ev_lift, ev_liftN, ev_bE, ev_bB, ev_bA, ev_cB, ev_cBB, ev_retB, ev_dVar, ev_dC, ev_dOp, ev_dUn, ev_toB, ev_truB, ev_notB, ev_andB, ev_orB, ev_andV, ev_orV, ev_notV, ev_ifV, ev_chainV, ev_isNonV, ev_notNonV, ev_aNil, ev_aCons, ev_aStar, ev_shs_nil, ev_shs, shs_app, ev_bL, ev_dTup, ev_dLst, ev_dCall, ev_dCallN, ev_dCallNO, ev_dFrz, frz_lst, frz_dic, frz_ins, ev_dVarF, ev_retV, ev_asgS, ev_gmName, ev_gmTup, ev_gmNil, ev_gmCons, ev_forS, ev_liftI, ev_bIE, ev_bIA, ev_iSeq, ev_seq_lst, ev_seq_tup, ev_seq_str, ev_items_lst, ev_items_tup, ev_iRange1, ev_iRange2, ev_dSlice, ev_optN, ev_optS, ev_altE, ev_isiD, ev_isiT, kd_non, kd_bl, kd_int, kd_str, kd_tup, kd_lst, kd_dic, kd_ins, tab_bb, tab_bo, tab_ob, tab_oo, cd0, cd1, cd2, cd3, cd4, cd5, cd6, tru_non, tru_bl, tru_int, tru_str, tru_lst, tru_tup, len_str, len_lst, len_tup, o_sub, o_lt, o_le, o_gt, o_ge, o_mod, o_div, o_neg, o_addI, o_addS, o_addL, o_addT, o_isB, o_notB, o_eqI, o_neI, o_eqS, o_neS, o_eqB, o_neB, o_eqNI, o_eqIN, o_inS, o_ixL, o_ixT, o_ixS, atD_0, atD_1, atD_2, atD_3, atD_4, listA_lst, listA_tup, fInt_int, ev_slIns, ev_dFldS, ev_fldS, ev_slInsPut, putFD_nil, putFD_cons, ev_oFld, ev_slLst, ev_slPut, ev_dIxS, ev_lenS, ev_appS, ev_stoS, ev_dMethS, ev_dMethSO, ev_onS, ev_callS0, ev_onC, ev_isC, ev_callM, ev_callMO, ev_dMeth, ev_dMethO, ev_dProp, ev_dMakeA, pxD_nil, pxD_cons, ev_xNil, ev_xCons, ev_xOwn, putXs_nil, putXs_sh, putXs_ow, ev_parX, ev_iEnumAD, o_mulI, o_mulL, ev_needS, ev_dCallS, ev_callS, ev_aSlot, ev_dCallB, ev_callB, lent_nil, lent_sh, lent_sl, scal_bl, ev_starM, ev_take0, ev_take1, ev_drop0, ev_drop1, ev_dCallStar, ev_dMethStar, ev_dMakeN, ev_isk_int, ev_isk_str, ev_keyT, ev_slDic, ev_slPutD, ev_dInS, ev_dPutS, ev_dicOf, ev_dGet2P, ev_aStarVals, ev_clrS, ev_clrT, List.getElem?_cons_zero, List.getElem?_cons_succ, List.getElem?_nil, List.set_cons_zero, List.set_cons_succ, List.set_nil, List.map_cons, List.map_nil, List.cons_append, List.nil_append, List.length_cons, List.length_nil, Option.map_some, Option.map_none, reduceIte, if_true, ite_true, ite_false, if_false, Bool.and_true, Bool.true_and, Bool.and_false, Bool.false_and, Bool.or_true, Bool.true_or, Bool.or_false, Bool.false_or, Bool.not_true, Bool.not_false, Bool.true_eq_false, Bool.false_eq_true, decide_true, decide_false, Nat.reduceAdd, Nat.reduceSub, Nat.reduceMul, Nat.reduceLeDiff, Nat.reduceLT, Nat.reduceEqDiff, Nat.reduceBEq, Int.reduceLT, Int.reduceLE, Int.reduceEq, Int.reduceAdd, Int.reduceSub, Int.reduceBEq, List.reduceReplicate, List.contains_cons, List.contains_nil, List.lookup_cons, Option.isSome_some, Option.isSome_none, beq_self_eq_true, bne_self_eq_false, List.all_cons, List.all_nil, List.any_cons, List.any_nil, Nat.zero_add, List.append_nil, and_true, true_and, and_self, decide_eq_true_eq, Nat.reduceDiv, Int.toNat_natCast, List.getD_cons_zero, List.getD_cons_succ, Int.cast_ofNat_Int, Int.natCast_zero, Nat.le_refl, Nat.reduceBNe, Int.reduceBNe, Bool.and_self, Bool.or_self, not_true_eq_false, not_false_eq_true, ne_eq, reduceCtorEq, *])
/-! ### what stands behind a step -/
structure StM where
  cell : Int
  rest : Int
  kept : List Nat
  pend : List Nat
  times : Int
def encS (s : StM) : D := .tup [.int s.cell, .int s.rest, .str s.kept, .str s.pend, .int s.times]
end DS
namespace DS
local macro_rules | `(tactic| decreasing_trivial) => `(tactic| simp only [ev_runD, ev_fin_nx, ev_fin_rt, ev_fin_ex, ev_outs_nil, ev_outs_pin, ev_outs_non, ev_outs_bl, ev_outs_int, ev_outs_str, ev_outs_tup, ev_outs_lst, ev_outs_dic, ev_outs_ins, ev_startD, ev_seqS, ev_nxS, ev_bkS, ev_ctS, ev_retN, ev_bS, ev_dropS, ev_retS, ev_retO, ev_ifS, ev_setS, ev_setO, ev_toS, ev_putS, ev_freeSl, np_none, np_own, np_pin, np_non, np_bl, np_int, np_str, np_tup, np_lst, np_dic, np_ins, sh_non, sh_bl, sh_int, sh_str, sh_tup, sh_lst, sh_dic, sh_ins, sh_own, sh_pin, ev_lift, ev_liftN, ev_bE, ev_bB, ev_bA, ev_cB, ev_cBB, ev_retB, ev_dVar, ev_dC, ev_dOp, ev_dUn, ev_toB, ev_truB, ev_notB, ev_andB, ev_orB, ev_andV, ev_orV, ev_notV, ev_ifV, ev_chainV, ev_isNonV, ev_notNonV, ev_aNil, ev_aCons, ev_aStar, ev_shs_nil, ev_shs, shs_app, ev_bL, ev_dTup, ev_dLst, ev_dCall, ev_dCallN, ev_dCallNO, ev_dFrz, frz_lst, frz_dic, frz_ins, ev_dVarF, ev_retV, ev_asgS, ev_gmName, ev_gmTup, ev_gmNil, ev_gmCons, ev_forS, ev_liftI, ev_bIE, ev_bIA, ev_iSeq, ev_seq_lst, ev_seq_tup, ev_seq_str, ev_items_lst, ev_items_tup, ev_iRange1, ev_iRange2, ev_dSlice, ev_optN, ev_optS, ev_altE, ev_isiD, ev_isiT, kd_non, kd_bl, kd_int, kd_str, kd_tup, kd_lst, kd_dic, kd_ins, tab_bb, tab_bo, tab_ob, tab_oo, cd0, cd1, cd2, cd3, cd4, cd5, cd6, tru_non, tru_bl, tru_int, tru_str, tru_lst, tru_tup, len_str, len_lst, len_tup, o_sub, o_lt, o_le, o_gt, o_ge, o_mod, o_div, o_neg, o_addI, o_addS, o_addL, o_addT, o_isB, o_notB, o_eqI, o_neI, o_eqS, o_neS, o_eqB, o_neB, o_eqNI, o_eqIN, o_inS, o_ixL, o_ixT, o_ixS, atD_0, atD_1, atD_2, atD_3, atD_4, listA_lst, listA_tup, fInt_int, ev_slIns, ev_dFldS, ev_fldS, ev_slInsPut, putFD_nil, putFD_cons, ev_oFld, ev_slLst, ev_slPut, ev_dIxS, ev_lenS, ev_appS, ev_stoS, ev_dMethS, ev_dMethSO, ev_onS, ev_callS0, ev_onC, ev_isC, ev_callM, ev_callMO, ev_dMeth, ev_dMethO, ev_dProp, ev_dMakeA, pxD_nil, pxD_cons, ev_xNil, ev_xCons, ev_xOwn, putXs_nil, putXs_sh, putXs_ow, ev_parX, ev_iEnumAD, o_mulI, o_mulL, ev_needS, ev_dCallS, ev_callS, ev_aSlot, ev_dCallB, ev_callB, lent_nil, lent_sh, lent_sl, scal_bl, ev_starM, ev_take0, ev_take1, ev_drop0, ev_drop1, ev_dCallStar, ev_dMethStar, ev_dMakeN, ev_isk_int, ev_isk_str, ev_keyT, ev_slDic, ev_slPutD, ev_dInS, ev_dPutS, ev_dicOf, ev_dGet2P, ev_aStarVals, ev_clrS, ev_clrT, List.getElem?_cons_zero, List.getElem?_cons_succ, List.getElem?_nil, List.set_cons_zero, List.set_cons_succ, List.set_nil, List.map_cons, List.map_nil, List.cons_append, List.nil_append, List.length_cons, List.length_nil, Option.map_some, Option.map_none, reduceIte, if_true, ite_true, ite_false, if_false, Bool.and_true, Bool.true_and, Bool.and_false, Bool.false_and, Bool.or_true, Bool.true_or, Bool.or_false, Bool.false_or, Bool.not_true, Bool.not_false, Bool.true_eq_false, Bool.false_eq_true, decide_true, decide_false, Nat.reduceAdd, Nat.reduceSub, Nat.reduceMul, Nat.reduceLeDiff, Nat.reduceLT, Nat.reduceEqDiff, Nat.reduceBEq, Int.reduceLT, Int.reduceLE, Int.reduceEq, Int.reduceAdd, Int.reduceSub, Int.reduceBEq, List.reduceReplicate, List.contains_cons, List.contains_nil, List.lookup_cons, Option.isSome_some, Option.isSome_none, beq_self_eq_true, bne_self_eq_false, List.all_cons, List.all_nil, List.any_cons, List.any_nil, Nat.zero_add, List.append_nil, and_true, true_and, and_self, decide_eq_true_eq, Nat.reduceDiv, Int.toNat_natCast, List.getD_cons_zero, List.getD_cons_succ, Int.cast_ofNat_Int, Int.natCast_zero, Nat.le_refl, Nat.reduceBNe, Int.reduceBNe, Bool.and_self, Bool.or_self, not_true_eq_false, not_false_eq_true, ne_eq, reduceCtorEq, *])
/-! ### the law's own account of a step; branches -/
end DS
namespace DS
local macro_rules | `(tactic| decreasing_trivial) => `(tactic| simp only [ev_runD, ev_fin_nx, ev_fin_rt, ev_fin_ex, ev_outs_nil, ev_outs_pin, ev_outs_non, ev_outs_bl, ev_outs_int, ev_outs_str, ev_outs_tup, ev_outs_lst, ev_outs_dic, ev_outs_ins, ev_startD, ev_seqS, ev_nxS, ev_bkS, ev_ctS, ev_retN, ev_bS, ev_dropS, ev_retS, ev_retO, ev_ifS, ev_setS, ev_setO, ev_toS, ev_putS, ev_freeSl, np_none, np_own, np_pin, np_non, np_bl, np_int, np_str, np_tup, np_lst, np_dic, np_ins, sh_non, sh_bl, sh_int, sh_str, sh_tup, sh_lst, sh_dic, sh_ins, sh_own, sh_pin, ev_lift, ev_liftN, ev_bE, ev_bB, ev_bA, ev_cB, ev_cBB, ev_retB, ev_dVar, ev_dC, ev_dOp, ev_dUn, ev_toB, ev_truB, ev_notB, ev_andB, ev_orB, ev_andV, ev_orV, ev_notV, ev_ifV, ev_chainV, ev_isNonV, ev_notNonV, ev_aNil, ev_aCons, ev_aStar, ev_shs_nil, ev_shs, shs_app, ev_bL, ev_dTup, ev_dLst, ev_dCall, ev_dCallN, ev_dCallNO, ev_dFrz, frz_lst, frz_dic, frz_ins, ev_dVarF, ev_retV, ev_asgS, ev_gmName, ev_gmTup, ev_gmNil, ev_gmCons, ev_forS, ev_liftI, ev_bIE, ev_bIA, ev_iSeq, ev_seq_lst, ev_seq_tup, ev_seq_str, ev_items_lst, ev_items_tup, ev_iRange1, ev_iRange2, ev_dSlice, ev_optN, ev_optS, ev_altE, ev_isiD, ev_isiT, kd_non, kd_bl, kd_int, kd_str, kd_tup, kd_lst, kd_dic, kd_ins, tab_bb, tab_bo, tab_ob, tab_oo, cd0, cd1, cd2, cd3, cd4, cd5, cd6, tru_non, tru_bl, tru_int, tru_str, tru_lst, tru_tup, len_str, len_lst, len_tup, o_sub, o_lt, o_le, o_gt, o_ge, o_mod, o_div, o_neg, o_addI, o_addS, o_addL, o_addT, o_isB, o_notB, o_eqI, o_neI, o_eqS, o_neS, o_eqB, o_neB, o_eqNI, o_eqIN, o_inS, o_ixL, o_ixT, o_ixS, atD_0, atD_1, atD_2, atD_3, atD_4, listA_lst, listA_tup, fInt_int, ev_slIns, ev_dFldS, ev_fldS, ev_slInsPut, putFD_nil, putFD_cons, ev_oFld, ev_slLst, ev_slPut, ev_dIxS, ev_lenS, ev_appS, ev_stoS, ev_dMethS, ev_dMethSO, ev_onS, ev_callS0, ev_onC, ev_isC, ev_callM, ev_callMO, ev_dMeth, ev_dMethO, ev_dProp, ev_dMakeA, pxD_nil, pxD_cons, ev_xNil, ev_xCons, ev_xOwn, putXs_nil, putXs_sh, putXs_ow, ev_parX, ev_iEnumAD, o_mulI, o_mulL, ev_needS, ev_dCallS, ev_callS, ev_aSlot, ev_dCallB, ev_callB, lent_nil, lent_sh, lent_sl, scal_bl, ev_starM, ev_take0, ev_take1, ev_drop0, ev_drop1, ev_dCallStar, ev_dMethStar, ev_dMakeN, ev_isk_int, ev_isk_str, ev_keyT, ev_slDic, ev_slPutD, ev_dInS, ev_dPutS, ev_dicOf, ev_dGet2P, ev_aStarVals, ev_clrS, ev_clrT, List.getElem?_cons_zero, List.getElem?_cons_succ, List.getElem?_nil, List.set_cons_zero, List.set_cons_succ, List.set_nil, List.map_cons, List.map_nil, List.cons_append, List.nil_append, List.length_cons, List.length_nil, Option.map_some, Option.map_none, reduceIte, if_true, ite_true, ite_false, if_false, Bool.and_true, Bool.true_and, Bool.and_false, Bool.false_and, Bool.or_true, Bool.true_or, Bool.or_false, Bool.false_or, Bool.not_true, Bool.not_false, Bool.true_eq_false, Bool.false_eq_true, decide_true, decide_false, Nat.reduceAdd, Nat.reduceSub, Nat.reduceMul, Nat.reduceLeDiff, Nat.reduceLT, Nat.reduceEqDiff, Nat.reduceBEq, Int.reduceLT, Int.reduceLE, Int.reduceEq, Int.reduceAdd, Int.reduceSub, Int.reduceBEq, List.reduceReplicate, List.contains_cons, List.contains_nil, List.lookup_cons, Option.isSome_some, Option.isSome_none, beq_self_eq_true, bne_self_eq_false, List.all_cons, List.all_nil, List.any_cons, List.any_nil, Nat.zero_add, List.append_nil, and_true, true_and, and_self, decide_eq_true_eq, Nat.reduceDiv, Int.toNat_natCast, List.getD_cons_zero, List.getD_cons_succ, Int.cast_ofNat_Int, Int.natCast_zero, Nat.le_refl, Nat.reduceBNe, Int.reduceBNe, Bool.and_self, Bool.or_self, not_true_eq_false, not_false_eq_true, ne_eq, reduceCtorEq, *])
/-! ### drawn deeds -/
/-! ### the pairs of sights -/
def pr (r : Rw) : List Nat × List Nat := (r.a, r.b)
end DS
namespace DS
local macro_rules | `(tactic| decreasing_trivial) => `(tactic| simp only [ev_runD, ev_fin_nx, ev_fin_rt, ev_fin_ex, ev_outs_nil, ev_outs_pin, ev_outs_non, ev_outs_bl, ev_outs_int, ev_outs_str, ev_outs_tup, ev_outs_lst, ev_outs_dic, ev_outs_ins, ev_startD, ev_seqS, ev_nxS, ev_bkS, ev_ctS, ev_retN, ev_bS, ev_dropS, ev_retS, ev_retO, ev_ifS, ev_setS, ev_setO, ev_toS, ev_putS, ev_freeSl, np_none, np_own, np_pin, np_non, np_bl, np_int, np_str, np_tup, np_lst, np_dic, np_ins, sh_non, sh_bl, sh_int, sh_str, sh_tup, sh_lst, sh_dic, sh_ins, sh_own, sh_pin, ev_lift, ev_liftN, ev_bE, ev_bB, ev_bA, ev_cB, ev_cBB, ev_retB, ev_dVar, ev_dC, ev_dOp, ev_dUn, ev_toB, ev_truB, ev_notB, ev_andB, ev_orB, ev_andV, ev_orV, ev_notV, ev_ifV, ev_chainV, ev_isNonV, ev_notNonV, ev_aNil, ev_aCons, ev_aStar, ev_shs_nil, ev_shs, shs_app, ev_bL, ev_dTup, ev_dLst, ev_dCall, ev_dCallN, ev_dCallNO, ev_dFrz, frz_lst, frz_dic, frz_ins, ev_dVarF, ev_retV, ev_asgS, ev_gmName, ev_gmTup, ev_gmNil, ev_gmCons, ev_forS, ev_liftI, ev_bIE, ev_bIA, ev_iSeq, ev_seq_lst, ev_seq_tup, ev_seq_str, ev_items_lst, ev_items_tup, ev_iRange1, ev_iRange2, ev_dSlice, ev_optN, ev_optS, ev_altE, ev_isiD, ev_isiT, kd_non, kd_bl, kd_int, kd_str, kd_tup, kd_lst, kd_dic, kd_ins, tab_bb, tab_bo, tab_ob, tab_oo, cd0, cd1, cd2, cd3, cd4, cd5, cd6, tru_non, tru_bl, tru_int, tru_str, tru_lst, tru_tup, len_str, len_lst, len_tup, o_sub, o_lt, o_le, o_gt, o_ge, o_mod, o_div, o_neg, o_addI, o_addS, o_addL, o_addT, o_isB, o_notB, o_eqI, o_neI, o_eqS, o_neS, o_eqB, o_neB, o_eqNI, o_eqIN, o_inS, o_ixL, o_ixT, o_ixS, atD_0, atD_1, atD_2, atD_3, atD_4, listA_lst, listA_tup, fInt_int, ev_slIns, ev_dFldS, ev_fldS, ev_slInsPut, putFD_nil, putFD_cons, ev_oFld, ev_slLst, ev_slPut, ev_dIxS, ev_lenS, ev_appS, ev_stoS, ev_dMethS, ev_dMethSO, ev_onS, ev_callS0, ev_onC, ev_isC, ev_callM, ev_callMO, ev_dMeth, ev_dMethO, ev_dProp, ev_dMakeA, pxD_nil, pxD_cons, ev_xNil, ev_xCons, ev_xOwn, putXs_nil, putXs_sh, putXs_ow, ev_parX, ev_iEnumAD, o_mulI, o_mulL, ev_needS, ev_dCallS, ev_callS, ev_aSlot, ev_dCallB, ev_callB, lent_nil, lent_sh, lent_sl, scal_bl, ev_starM, ev_take0, ev_take1, ev_drop0, ev_drop1, ev_dCallStar, ev_dMethStar, ev_dMakeN, ev_isk_int, ev_isk_str, ev_keyT, ev_slDic, ev_slPutD, ev_dInS, ev_dPutS, ev_dicOf, ev_dGet2P, ev_aStarVals, ev_clrS, ev_clrT, List.getElem?_cons_zero, List.getElem?_cons_succ, List.getElem?_nil, List.set_cons_zero, List.set_cons_succ, List.set_nil, List.map_cons, List.map_nil, List.cons_append, List.nil_append, List.length_cons, List.length_nil, Option.map_some, Option.map_none, reduceIte, if_true, ite_true, ite_false, if_false, Bool.and_true, Bool.true_and, Bool.and_false, Bool.false_and, Bool.or_true, Bool.true_or, Bool.or_false, Bool.false_or, Bool.not_true, Bool.not_false, Bool.true_eq_false, Bool.false_eq_true, decide_true, decide_false, Nat.reduceAdd, Nat.reduceSub, Nat.reduceMul, Nat.reduceLeDiff, Nat.reduceLT, Nat.reduceEqDiff, Nat.reduceBEq, Int.reduceLT, Int.reduceLE, Int.reduceEq, Int.reduceAdd, Int.reduceSub, Int.reduceBEq, List.reduceReplicate, List.contains_cons, List.contains_nil, List.lookup_cons, Option.isSome_some, Option.isSome_none, beq_self_eq_true, bne_self_eq_false, List.all_cons, List.all_nil, List.any_cons, List.any_nil, Nat.zero_add, List.append_nil, and_true, true_and, and_self, decide_eq_true_eq, Nat.reduceDiv, Int.toNat_natCast, List.getD_cons_zero, List.getD_cons_succ, Int.cast_ofNat_Int, Int.natCast_zero, Nat.le_refl, Nat.reduceBNe, Int.reduceBNe, Bool.and_self, Bool.or_self, not_true_eq_false, not_false_eq_true, ne_eq, reduceCtorEq, *])
/-! ### moves that two sights tell -/
end DS
namespace DS
local macro_rules | `(tactic| decreasing_trivial) => `(tactic| simp only [ev_runD, ev_fin_nx, ev_fin_rt, ev_fin_ex, ev_outs_nil, ev_outs_pin, ev_outs_non, ev_outs_bl, ev_outs_int, ev_outs_str, ev_outs_tup, ev_outs_lst, ev_outs_dic, ev_outs_ins, ev_startD, ev_seqS, ev_nxS, ev_bkS, ev_ctS, ev_retN, ev_bS, ev_dropS, ev_retS, ev_retO, ev_ifS, ev_setS, ev_setO, ev_toS, ev_putS, ev_freeSl, np_none, np_own, np_pin, np_non, np_bl, np_int, np_str, np_tup, np_lst, np_dic, np_ins, sh_non, sh_bl, sh_int, sh_str, sh_tup, sh_lst, sh_dic, sh_ins, sh_own, sh_pin, ev_lift, ev_liftN, ev_bE, ev_bB, ev_bA, ev_cB, ev_cBB, ev_retB, ev_dVar, ev_dC, ev_dOp, ev_dUn, ev_toB, ev_truB, ev_notB, ev_andB, ev_orB, ev_andV, ev_orV, ev_notV, ev_ifV, ev_chainV, ev_isNonV, ev_notNonV, ev_aNil, ev_aCons, ev_aStar, ev_shs_nil, ev_shs, shs_app, ev_bL, ev_dTup, ev_dLst, ev_dCall, ev_dCallN, ev_dCallNO, ev_dFrz, frz_lst, frz_dic, frz_ins, ev_dVarF, ev_retV, ev_asgS, ev_gmName, ev_gmTup, ev_gmNil, ev_gmCons, ev_forS, ev_liftI, ev_bIE, ev_bIA, ev_iSeq, ev_seq_lst, ev_seq_tup, ev_seq_str, ev_items_lst, ev_items_tup, ev_iRange1, ev_iRange2, ev_dSlice, ev_optN, ev_optS, ev_altE, ev_isiD, ev_isiT, kd_non, kd_bl, kd_int, kd_str, kd_tup, kd_lst, kd_dic, kd_ins, tab_bb, tab_bo, tab_ob, tab_oo, cd0, cd1, cd2, cd3, cd4, cd5, cd6, tru_non, tru_bl, tru_int, tru_str, tru_lst, tru_tup, len_str, len_lst, len_tup, o_sub, o_lt, o_le, o_gt, o_ge, o_mod, o_div, o_neg, o_addI, o_addS, o_addL, o_addT, o_isB, o_notB, o_eqI, o_neI, o_eqS, o_neS, o_eqB, o_neB, o_eqNI, o_eqIN, o_inS, o_ixL, o_ixT, o_ixS, atD_0, atD_1, atD_2, atD_3, atD_4, listA_lst, listA_tup, fInt_int, ev_slIns, ev_dFldS, ev_fldS, ev_slInsPut, putFD_nil, putFD_cons, ev_oFld, ev_slLst, ev_slPut, ev_dIxS, ev_lenS, ev_appS, ev_stoS, ev_dMethS, ev_dMethSO, ev_onS, ev_callS0, ev_onC, ev_isC, ev_callM, ev_callMO, ev_dMeth, ev_dMethO, ev_dProp, ev_dMakeA, pxD_nil, pxD_cons, ev_xNil, ev_xCons, ev_xOwn, putXs_nil, putXs_sh, putXs_ow, ev_parX, ev_iEnumAD, o_mulI, o_mulL, ev_needS, ev_dCallS, ev_callS, ev_aSlot, ev_dCallB, ev_callB, lent_nil, lent_sh, lent_sl, scal_bl, ev_starM, ev_take0, ev_take1, ev_drop0, ev_drop1, ev_dCallStar, ev_dMethStar, ev_dMakeN, ev_isk_int, ev_isk_str, ev_keyT, ev_slDic, ev_slPutD, ev_dInS, ev_dPutS, ev_dicOf, ev_dGet2P, ev_aStarVals, ev_clrS, ev_clrT, List.getElem?_cons_zero, List.getElem?_cons_succ, List.getElem?_nil, List.set_cons_zero, List.set_cons_succ, List.set_nil, List.map_cons, List.map_nil, List.cons_append, List.nil_append, List.length_cons, List.length_nil, Option.map_some, Option.map_none, reduceIte, if_true, ite_true, ite_false, if_false, Bool.and_true, Bool.true_and, Bool.and_false, Bool.false_and, Bool.or_true, Bool.true_or, Bool.or_false, Bool.false_or, Bool.not_true, Bool.not_false, Bool.true_eq_false, Bool.false_eq_true, decide_true, decide_false, Nat.reduceAdd, Nat.reduceSub, Nat.reduceMul, Nat.reduceLeDiff, Nat.reduceLT, Nat.reduceEqDiff, Nat.reduceBEq, Int.reduceLT, Int.reduceLE, Int.reduceEq, Int.reduceAdd, Int.reduceSub, Int.reduceBEq, List.reduceReplicate, List.contains_cons, List.contains_nil, List.lookup_cons, Option.isSome_some, Option.isSome_none, beq_self_eq_true, bne_self_eq_false, List.all_cons, List.all_nil, List.any_cons, List.any_nil, Nat.zero_add, List.append_nil, and_true, true_and, and_self, decide_eq_true_eq, Nat.reduceDiv, Int.toNat_natCast, List.getD_cons_zero, List.getD_cons_succ, Int.cast_ofNat_Int, Int.natCast_zero, Nat.le_refl, Nat.reduceBNe, Int.reduceBNe, Bool.and_self, Bool.or_self, not_true_eq_false, not_false_eq_true, ne_eq, reduceCtorEq, *])
/-! ### rows are drawn -/
theorem rowsL_len (l : List Rw) : (rowsL l).length = l.length := by unfold rowsL; rw [List.length_map]
end DS
namespace DS
local macro_rules | `(tactic| decreasing_trivial) => `(tactic| simp only [ev_runD, ev_fin_nx, ev_fin_rt, ev_fin_ex, ev_outs_nil, ev_outs_pin, ev_outs_non, ev_outs_bl, ev_outs_int, ev_outs_str, ev_outs_tup, ev_outs_lst, ev_outs_dic, ev_outs_ins, ev_startD, ev_seqS, ev_nxS, ev_bkS, ev_ctS, ev_retN, ev_bS, ev_dropS, ev_retS, ev_retO, ev_ifS, ev_setS, ev_setO, ev_toS, ev_putS, ev_freeSl, np_none, np_own, np_pin, np_non, np_bl, np_int, np_str, np_tup, np_lst, np_dic, np_ins, sh_non, sh_bl, sh_int, sh_str, sh_tup, sh_lst, sh_dic, sh_ins, sh_own, sh_pin, ev_lift, ev_liftN, ev_bE, ev_bB, ev_bA, ev_cB, ev_cBB, ev_retB, ev_dVar, ev_dC, ev_dOp, ev_dUn, ev_toB, ev_truB, ev_notB, ev_andB, ev_orB, ev_andV, ev_orV, ev_notV, ev_ifV, ev_chainV, ev_isNonV, ev_notNonV, ev_aNil, ev_aCons, ev_aStar, ev_shs_nil, ev_shs, shs_app, ev_bL, ev_dTup, ev_dLst, ev_dCall, ev_dCallN, ev_dCallNO, ev_dFrz, frz_lst, frz_dic, frz_ins, ev_dVarF, ev_retV, ev_asgS, ev_gmName, ev_gmTup, ev_gmNil, ev_gmCons, ev_forS, ev_liftI, ev_bIE, ev_bIA, ev_iSeq, ev_seq_lst, ev_seq_tup, ev_seq_str, ev_items_lst, ev_items_tup, ev_iRange1, ev_iRange2, ev_dSlice, ev_optN, ev_optS, ev_altE, ev_isiD, ev_isiT, kd_non, kd_bl, kd_int, kd_str, kd_tup, kd_lst, kd_dic, kd_ins, tab_bb, tab_bo, tab_ob, tab_oo, cd0, cd1, cd2, cd3, cd4, cd5, cd6, tru_non, tru_bl, tru_int, tru_str, tru_lst, tru_tup, len_str, len_lst, len_tup, o_sub, o_lt, o_le, o_gt, o_ge, o_mod, o_div, o_neg, o_addI, o_addS, o_addL, o_addT, o_isB, o_notB, o_eqI, o_neI, o_eqS, o_neS, o_eqB, o_neB, o_eqNI, o_eqIN, o_inS, o_ixL, o_ixT, o_ixS, atD_0, atD_1, atD_2, atD_3, atD_4, listA_lst, listA_tup, fInt_int, ev_slIns, ev_dFldS, ev_fldS, ev_slInsPut, putFD_nil, putFD_cons, ev_oFld, ev_slLst, ev_slPut, ev_dIxS, ev_lenS, ev_appS, ev_stoS, ev_dMethS, ev_dMethSO, ev_onS, ev_callS0, ev_onC, ev_isC, ev_callM, ev_callMO, ev_dMeth, ev_dMethO, ev_dProp, ev_dMakeA, pxD_nil, pxD_cons, ev_xNil, ev_xCons, ev_xOwn, putXs_nil, putXs_sh, putXs_ow, ev_parX, ev_iEnumAD, o_mulI, o_mulL, ev_needS, ev_dCallS, ev_callS, ev_aSlot, ev_dCallB, ev_callB, lent_nil, lent_sh, lent_sl, scal_bl, ev_starM, ev_take0, ev_take1, ev_drop0, ev_drop1, ev_dCallStar, ev_dMethStar, ev_dMakeN, ev_isk_int, ev_isk_str, ev_keyT, ev_slDic, ev_slPutD, ev_dInS, ev_dPutS, ev_dicOf, ev_dGet2P, ev_aStarVals, ev_clrS, ev_clrT, List.getElem?_cons_zero, List.getElem?_cons_succ, List.getElem?_nil, List.set_cons_zero, List.set_cons_succ, List.set_nil, List.map_cons, List.map_nil, List.cons_append, List.nil_append, List.length_cons, List.length_nil, Option.map_some, Option.map_none, reduceIte, if_true, ite_true, ite_false, if_false, Bool.and_true, Bool.true_and, Bool.and_false, Bool.false_and, Bool.or_true, Bool.true_or, Bool.or_false, Bool.false_or, Bool.not_true, Bool.not_false, Bool.true_eq_false, Bool.false_eq_true, decide_true, decide_false, Nat.reduceAdd, Nat.reduceSub, Nat.reduceMul, Nat.reduceLeDiff, Nat.reduceLT, Nat.reduceEqDiff, Nat.reduceBEq, Int.reduceLT, Int.reduceLE, Int.reduceEq, Int.reduceAdd, Int.reduceSub, Int.reduceBEq, List.reduceReplicate, List.contains_cons, List.contains_nil, List.lookup_cons, Option.isSome_some, Option.isSome_none, beq_self_eq_true, bne_self_eq_false, List.all_cons, List.all_nil, List.any_cons, List.any_nil, Nat.zero_add, List.append_nil, and_true, true_and, and_self, decide_eq_true_eq, Nat.reduceDiv, Int.toNat_natCast, List.getD_cons_zero, List.getD_cons_succ, Int.cast_ofNat_Int, Int.natCast_zero, Nat.le_refl, Nat.reduceBNe, Int.reduceBNe, Bool.and_self, Bool.or_self, not_true_eq_false, not_false_eq_true, ne_eq, reduceCtorEq, *])
/-! ### derived rows -/
end DS
namespace DS
local macro_rules | `(tactic| decreasing_trivial) => `(tactic| simp only [ev_runD, ev_fin_nx, ev_fin_rt, ev_fin_ex, ev_outs_nil, ev_outs_pin, ev_outs_non, ev_outs_bl, ev_outs_int, ev_outs_str, ev_outs_tup, ev_outs_lst, ev_outs_dic, ev_outs_ins, ev_startD, ev_seqS, ev_nxS, ev_bkS, ev_ctS, ev_retN, ev_bS, ev_dropS, ev_retS, ev_retO, ev_ifS, ev_setS, ev_setO, ev_toS, ev_putS, ev_freeSl, np_none, np_own, np_pin, np_non, np_bl, np_int, np_str, np_tup, np_lst, np_dic, np_ins, sh_non, sh_bl, sh_int, sh_str, sh_tup, sh_lst, sh_dic, sh_ins, sh_own, sh_pin, ev_lift, ev_liftN, ev_bE, ev_bB, ev_bA, ev_cB, ev_cBB, ev_retB, ev_dVar, ev_dC, ev_dOp, ev_dUn, ev_toB, ev_truB, ev_notB, ev_andB, ev_orB, ev_andV, ev_orV, ev_notV, ev_ifV, ev_chainV, ev_isNonV, ev_notNonV, ev_aNil, ev_aCons, ev_aStar, ev_shs_nil, ev_shs, shs_app, ev_bL, ev_dTup, ev_dLst, ev_dCall, ev_dCallN, ev_dCallNO, ev_dFrz, frz_lst, frz_dic, frz_ins, ev_dVarF, ev_retV, ev_asgS, ev_gmName, ev_gmTup, ev_gmNil, ev_gmCons, ev_forS, ev_liftI, ev_bIE, ev_bIA, ev_iSeq, ev_seq_lst, ev_seq_tup, ev_seq_str, ev_items_lst, ev_items_tup, ev_iRange1, ev_iRange2, ev_dSlice, ev_optN, ev_optS, ev_altE, ev_isiD, ev_isiT, kd_non, kd_bl, kd_int, kd_str, kd_tup, kd_lst, kd_dic, kd_ins, tab_bb, tab_bo, tab_ob, tab_oo, cd0, cd1, cd2, cd3, cd4, cd5, cd6, tru_non, tru_bl, tru_int, tru_str, tru_lst, tru_tup, len_str, len_lst, len_tup, o_sub, o_lt, o_le, o_gt, o_ge, o_mod, o_div, o_neg, o_addI, o_addS, o_addL, o_addT, o_isB, o_notB, o_eqI, o_neI, o_eqS, o_neS, o_eqB, o_neB, o_eqNI, o_eqIN, o_inS, o_ixL, o_ixT, o_ixS, atD_0, atD_1, atD_2, atD_3, atD_4, listA_lst, listA_tup, fInt_int, ev_slIns, ev_dFldS, ev_fldS, ev_slInsPut, putFD_nil, putFD_cons, ev_oFld, ev_slLst, ev_slPut, ev_dIxS, ev_lenS, ev_appS, ev_stoS, ev_dMethS, ev_dMethSO, ev_onS, ev_callS0, ev_onC, ev_isC, ev_callM, ev_callMO, ev_dMeth, ev_dMethO, ev_dProp, ev_dMakeA, pxD_nil, pxD_cons, ev_xNil, ev_xCons, ev_xOwn, putXs_nil, putXs_sh, putXs_ow, ev_parX, ev_iEnumAD, o_mulI, o_mulL, ev_needS, ev_dCallS, ev_callS, ev_aSlot, ev_dCallB, ev_callB, lent_nil, lent_sh, lent_sl, scal_bl, ev_starM, ev_take0, ev_take1, ev_drop0, ev_drop1, ev_dCallStar, ev_dMethStar, ev_dMakeN, ev_isk_int, ev_isk_str, ev_keyT, ev_slDic, ev_slPutD, ev_dInS, ev_dPutS, ev_dicOf, ev_dGet2P, ev_aStarVals, ev_clrS, ev_clrT, List.getElem?_cons_zero, List.getElem?_cons_succ, List.getElem?_nil, List.set_cons_zero, List.set_cons_succ, List.set_nil, List.map_cons, List.map_nil, List.cons_append, List.nil_append, List.length_cons, List.length_nil, Option.map_some, Option.map_none, reduceIte, if_true, ite_true, ite_false, if_false, Bool.and_true, Bool.true_and, Bool.and_false, Bool.false_and, Bool.or_true, Bool.true_or, Bool.or_false, Bool.false_or, Bool.not_true, Bool.not_false, Bool.true_eq_false, Bool.false_eq_true, decide_true, decide_false, Nat.reduceAdd, Nat.reduceSub, Nat.reduceMul, Nat.reduceLeDiff, Nat.reduceLT, Nat.reduceEqDiff, Nat.reduceBEq, Int.reduceLT, Int.reduceLE, Int.reduceEq, Int.reduceAdd, Int.reduceSub, Int.reduceBEq, List.reduceReplicate, List.contains_cons, List.contains_nil, List.lookup_cons, Option.isSome_some, Option.isSome_none, beq_self_eq_true, bne_self_eq_false, List.all_cons, List.all_nil, List.any_cons, List.any_nil, Nat.zero_add, List.append_nil, and_true, true_and, and_self, decide_eq_true_eq, Nat.reduceDiv, Int.toNat_natCast, List.getD_cons_zero, List.getD_cons_succ, Int.cast_ofNat_Int, Int.natCast_zero, Nat.le_refl, Nat.reduceBNe, Int.reduceBNe, Bool.and_self, Bool.or_self, not_true_eq_false, not_false_eq_true, ne_eq, reduceCtorEq, *])
/-! ### bent rows, drawn tables -/
theorem cut_to {xs : List D} {k : Nat} (h : k ≤ xs.length) : sliceD none (some (k : Int)) (.lst xs) = some (.lst (xs.take k)) := by
  unfold sliceD cutD sixD
  have e : ¬ ((k : Int) < 0) := by omega
  simp only [e, if_false, Int.toNat_natCast, List.drop_zero, Nat.sub_zero, Nat.min_eq_left h]
theorem cut_from {xs : List D} {k : Nat} (h : k < xs.length) : sliceD (some ((k : Int) + 1)) none (.lst xs) = some (.lst (xs.drop (k + 1))) := by
  unfold sliceD cutD sixD
  have e : ¬ ((k : Int) + 1 < 0) := by omega
  have e2 : ((k : Int) + 1).toNat = k + 1 := by omega
  simp only [e, if_false, e2, Nat.min_eq_left (show k + 1 ≤ xs.length from h)]
  rw [List.take_of_length_le (by rw [List.length_drop]; exact Nat.le_refl _)]
end DS
namespace DS
local macro_rules | `(tactic| decreasing_trivial) => `(tactic| simp only [ev_runD, ev_fin_nx, ev_fin_rt, ev_fin_ex, ev_outs_nil, ev_outs_pin, ev_outs_non, ev_outs_bl, ev_outs_int, ev_outs_str, ev_outs_tup, ev_outs_lst, ev_outs_dic, ev_outs_ins, ev_startD, ev_seqS, ev_nxS, ev_bkS, ev_ctS, ev_retN, ev_bS, ev_dropS, ev_retS, ev_retO, ev_ifS, ev_setS, ev_setO, ev_toS, ev_putS, ev_freeSl, np_none, np_own, np_pin, np_non, np_bl, np_int, np_str, np_tup, np_lst, np_dic, np_ins, sh_non, sh_bl, sh_int, sh_str, sh_tup, sh_lst, sh_dic, sh_ins, sh_own, sh_pin, ev_lift, ev_liftN, ev_bE, ev_bB, ev_bA, ev_cB, ev_cBB, ev_retB, ev_dVar, ev_dC, ev_dOp, ev_dUn, ev_toB, ev_truB, ev_notB, ev_andB, ev_orB, ev_andV, ev_orV, ev_notV, ev_ifV, ev_chainV, ev_isNonV, ev_notNonV, ev_aNil, ev_aCons, ev_aStar, ev_shs_nil, ev_shs, shs_app, ev_bL, ev_dTup, ev_dLst, ev_dCall, ev_dCallN, ev_dCallNO, ev_dFrz, frz_lst, frz_dic, frz_ins, ev_dVarF, ev_retV, ev_asgS, ev_gmName, ev_gmTup, ev_gmNil, ev_gmCons, ev_forS, ev_liftI, ev_bIE, ev_bIA, ev_iSeq, ev_seq_lst, ev_seq_tup, ev_seq_str, ev_items_lst, ev_items_tup, ev_iRange1, ev_iRange2, ev_dSlice, ev_optN, ev_optS, ev_altE, ev_isiD, ev_isiT, kd_non, kd_bl, kd_int, kd_str, kd_tup, kd_lst, kd_dic, kd_ins, tab_bb, tab_bo, tab_ob, tab_oo, cd0, cd1, cd2, cd3, cd4, cd5, cd6, tru_non, tru_bl, tru_int, tru_str, tru_lst, tru_tup, len_str, len_lst, len_tup, o_sub, o_lt, o_le, o_gt, o_ge, o_mod, o_div, o_neg, o_addI, o_addS, o_addL, o_addT, o_isB, o_notB, o_eqI, o_neI, o_eqS, o_neS, o_eqB, o_neB, o_eqNI, o_eqIN, o_inS, o_ixL, o_ixT, o_ixS, atD_0, atD_1, atD_2, atD_3, atD_4, listA_lst, listA_tup, fInt_int, ev_slIns, ev_dFldS, ev_fldS, ev_slInsPut, putFD_nil, putFD_cons, ev_oFld, ev_slLst, ev_slPut, ev_dIxS, ev_lenS, ev_appS, ev_stoS, ev_dMethS, ev_dMethSO, ev_onS, ev_callS0, ev_onC, ev_isC, ev_callM, ev_callMO, ev_dMeth, ev_dMethO, ev_dProp, ev_dMakeA, pxD_nil, pxD_cons, ev_xNil, ev_xCons, ev_xOwn, putXs_nil, putXs_sh, putXs_ow, ev_parX, ev_iEnumAD, o_mulI, o_mulL, ev_needS, ev_dCallS, ev_callS, ev_aSlot, ev_dCallB, ev_callB, lent_nil, lent_sh, lent_sl, scal_bl, ev_starM, ev_take0, ev_take1, ev_drop0, ev_drop1, ev_dCallStar, ev_dMethStar, ev_dMakeN, ev_isk_int, ev_isk_str, ev_keyT, ev_slDic, ev_slPutD, ev_dInS, ev_dPutS, ev_dicOf, ev_dGet2P, ev_aStarVals, ev_clrS, ev_clrT, List.getElem?_cons_zero, List.getElem?_cons_succ, List.getElem?_nil, List.set_cons_zero, List.set_cons_succ, List.set_nil, List.map_cons, List.map_nil, List.cons_append, List.nil_append, List.length_cons, List.length_nil, Option.map_some, Option.map_none, reduceIte, if_true, ite_true, ite_false, if_false, Bool.and_true, Bool.true_and, Bool.and_false, Bool.false_and, Bool.or_true, Bool.true_or, Bool.or_false, Bool.false_or, Bool.not_true, Bool.not_false, Bool.true_eq_false, Bool.false_eq_true, decide_true, decide_false, Nat.reduceAdd, Nat.reduceSub, Nat.reduceMul, Nat.reduceLeDiff, Nat.reduceLT, Nat.reduceEqDiff, Nat.reduceBEq, Int.reduceLT, Int.reduceLE, Int.reduceEq, Int.reduceAdd, Int.reduceSub, Int.reduceBEq, List.reduceReplicate, List.contains_cons, List.contains_nil, List.lookup_cons, Option.isSome_some, Option.isSome_none, beq_self_eq_true, bne_self_eq_false, List.all_cons, List.all_nil, List.any_cons, List.any_nil, Nat.zero_add, List.append_nil, and_true, true_and, and_self, decide_eq_true_eq, Nat.reduceDiv, Int.toNat_natCast, List.getD_cons_zero, List.getD_cons_succ, Int.cast_ofNat_Int, Int.natCast_zero, Nat.le_refl, Nat.reduceBNe, Int.reduceBNe, Bool.and_self, Bool.or_self, not_true_eq_false, not_false_eq_true, ne_eq, reduceCtorEq, *])
/-! ### drawn rigs -/
theorem encW_sh (W : WM) : ∃ l, encW W = .tup l := ⟨_, rfl⟩
/-! ### wide rigs -/
end DS
namespace DS
local macro_rules | `(tactic| decreasing_trivial) => `(tactic| simp only [ev_runD, ev_fin_nx, ev_fin_rt, ev_fin_ex, ev_outs_nil, ev_outs_pin, ev_outs_non, ev_outs_bl, ev_outs_int, ev_outs_str, ev_outs_tup, ev_outs_lst, ev_outs_dic, ev_outs_ins, ev_startD, ev_seqS, ev_nxS, ev_bkS, ev_ctS, ev_retN, ev_bS, ev_dropS, ev_retS, ev_retO, ev_ifS, ev_setS, ev_setO, ev_toS, ev_putS, ev_freeSl, np_none, np_own, np_pin, np_non, np_bl, np_int, np_str, np_tup, np_lst, np_dic, np_ins, sh_non, sh_bl, sh_int, sh_str, sh_tup, sh_lst, sh_dic, sh_ins, sh_own, sh_pin, ev_lift, ev_liftN, ev_bE, ev_bB, ev_bA, ev_cB, ev_cBB, ev_retB, ev_dVar, ev_dC, ev_dOp, ev_dUn, ev_toB, ev_truB, ev_notB, ev_andB, ev_orB, ev_andV, ev_orV, ev_notV, ev_ifV, ev_chainV, ev_isNonV, ev_notNonV, ev_aNil, ev_aCons, ev_aStar, ev_shs_nil, ev_shs, shs_app, ev_bL, ev_dTup, ev_dLst, ev_dCall, ev_dCallN, ev_dCallNO, ev_dFrz, frz_lst, frz_dic, frz_ins, ev_dVarF, ev_retV, ev_asgS, ev_gmName, ev_gmTup, ev_gmNil, ev_gmCons, ev_forS, ev_liftI, ev_bIE, ev_bIA, ev_iSeq, ev_seq_lst, ev_seq_tup, ev_seq_str, ev_items_lst, ev_items_tup, ev_iRange1, ev_iRange2, ev_dSlice, ev_optN, ev_optS, ev_altE, ev_isiD, ev_isiT, kd_non, kd_bl, kd_int, kd_str, kd_tup, kd_lst, kd_dic, kd_ins, tab_bb, tab_bo, tab_ob, tab_oo, cd0, cd1, cd2, cd3, cd4, cd5, cd6, tru_non, tru_bl, tru_int, tru_str, tru_lst, tru_tup, len_str, len_lst, len_tup, o_sub, o_lt, o_le, o_gt, o_ge, o_mod, o_div, o_neg, o_addI, o_addS, o_addL, o_addT, o_isB, o_notB, o_eqI, o_neI, o_eqS, o_neS, o_eqB, o_neB, o_eqNI, o_eqIN, o_inS, o_ixL, o_ixT, o_ixS, atD_0, atD_1, atD_2, atD_3, atD_4, listA_lst, listA_tup, fInt_int, ev_slIns, ev_dFldS, ev_fldS, ev_slInsPut, putFD_nil, putFD_cons, ev_oFld, ev_slLst, ev_slPut, ev_dIxS, ev_lenS, ev_appS, ev_stoS, ev_dMethS, ev_dMethSO, ev_onS, ev_callS0, ev_onC, ev_isC, ev_callM, ev_callMO, ev_dMeth, ev_dMethO, ev_dProp, ev_dMakeA, pxD_nil, pxD_cons, ev_xNil, ev_xCons, ev_xOwn, putXs_nil, putXs_sh, putXs_ow, ev_parX, ev_iEnumAD, o_mulI, o_mulL, ev_needS, ev_dCallS, ev_callS, ev_aSlot, ev_dCallB, ev_callB, lent_nil, lent_sh, lent_sl, scal_bl, ev_starM, ev_take0, ev_take1, ev_drop0, ev_drop1, ev_dCallStar, ev_dMethStar, ev_dMakeN, ev_isk_int, ev_isk_str, ev_keyT, ev_slDic, ev_slPutD, ev_dInS, ev_dPutS, ev_dicOf, ev_dGet2P, ev_aStarVals, ev_clrS, ev_clrT, List.getElem?_cons_zero, List.getElem?_cons_succ, List.getElem?_nil, List.set_cons_zero, List.set_cons_succ, List.set_nil, List.map_cons, List.map_nil, List.cons_append, List.nil_append, List.length_cons, List.length_nil, Option.map_some, Option.map_none, reduceIte, if_true, ite_true, ite_false, if_false, Bool.and_true, Bool.true_and, Bool.and_false, Bool.false_and, Bool.or_true, Bool.true_or, Bool.or_false, Bool.false_or, Bool.not_true, Bool.not_false, Bool.true_eq_false, Bool.false_eq_true, decide_true, decide_false, Nat.reduceAdd, Nat.reduceSub, Nat.reduceMul, Nat.reduceLeDiff, Nat.reduceLT, Nat.reduceEqDiff, Nat.reduceBEq, Int.reduceLT, Int.reduceLE, Int.reduceEq, Int.reduceAdd, Int.reduceSub, Int.reduceBEq, List.reduceReplicate, List.contains_cons, List.contains_nil, List.lookup_cons, Option.isSome_some, Option.isSome_none, beq_self_eq_true, bne_self_eq_false, List.all_cons, List.all_nil, List.any_cons, List.any_nil, Nat.zero_add, List.append_nil, and_true, true_and, and_self, decide_eq_true_eq, Nat.reduceDiv, Int.toNat_natCast, List.getD_cons_zero, List.getD_cons_succ, Int.cast_ofNat_Int, Int.natCast_zero, Nat.le_refl, Nat.reduceBNe, Int.reduceBNe, Bool.and_self, Bool.or_self, not_true_eq_false, not_false_eq_true, ne_eq, reduceCtorEq, *])
/-! ### sights are there -/
/-! ### steps that may be made -/
/-! ### a motion is drawn -/
/-! ### branches -/
end DS
namespace DS
end DS
namespace DS
local macro_rules | `(tactic| decreasing_trivial) => `(tactic| simp only [ev_runD, ev_fin_nx, ev_fin_rt, ev_fin_ex, ev_outs_nil, ev_outs_pin, ev_outs_non, ev_outs_bl, ev_outs_int, ev_outs_str, ev_outs_tup, ev_outs_lst, ev_outs_dic, ev_outs_ins, ev_startD, ev_seqS, ev_nxS, ev_bkS, ev_ctS, ev_retN, ev_bS, ev_dropS, ev_retS, ev_retO, ev_ifS, ev_setS, ev_setO, ev_toS, ev_putS, ev_freeSl, np_none, np_own, np_pin, np_non, np_bl, np_int, np_str, np_tup, np_lst, np_dic, np_ins, sh_non, sh_bl, sh_int, sh_str, sh_tup, sh_lst, sh_dic, sh_ins, sh_own, sh_pin, ev_lift, ev_liftN, ev_bE, ev_bB, ev_bA, ev_cB, ev_cBB, ev_retB, ev_dVar, ev_dC, ev_dOp, ev_dUn, ev_toB, ev_truB, ev_notB, ev_andB, ev_orB, ev_andV, ev_orV, ev_notV, ev_ifV, ev_chainV, ev_isNonV, ev_notNonV, ev_aNil, ev_aCons, ev_aStar, ev_shs_nil, ev_shs, shs_app, ev_bL, ev_dTup, ev_dLst, ev_dCall, ev_dCallN, ev_dCallNO, ev_dFrz, frz_lst, frz_dic, frz_ins, ev_dVarF, ev_retV, ev_asgS, ev_gmName, ev_gmTup, ev_gmNil, ev_gmCons, ev_forS, ev_liftI, ev_bIE, ev_bIA, ev_iSeq, ev_seq_lst, ev_seq_tup, ev_seq_str, ev_items_lst, ev_items_tup, ev_iRange1, ev_iRange2, ev_dSlice, ev_optN, ev_optS, ev_altE, ev_isiD, ev_isiT, kd_non, kd_bl, kd_int, kd_str, kd_tup, kd_lst, kd_dic, kd_ins, tab_bb, tab_bo, tab_ob, tab_oo, cd0, cd1, cd2, cd3, cd4, cd5, cd6, tru_non, tru_bl, tru_int, tru_str, tru_lst, tru_tup, len_str, len_lst, len_tup, o_sub, o_lt, o_le, o_gt, o_ge, o_mod, o_div, o_neg, o_addI, o_addS, o_addL, o_addT, o_isB, o_notB, o_eqI, o_neI, o_eqS, o_neS, o_eqB, o_neB, o_eqNI, o_eqIN, o_inS, o_ixL, o_ixT, o_ixS, atD_0, atD_1, atD_2, atD_3, atD_4, listA_lst, listA_tup, fInt_int, ev_slIns, ev_dFldS, ev_fldS, ev_slInsPut, putFD_nil, putFD_cons, ev_oFld, ev_slLst, ev_slPut, ev_dIxS, ev_lenS, ev_appS, ev_stoS, ev_dMethS, ev_dMethSO, ev_onS, ev_callS0, ev_onC, ev_isC, ev_callM, ev_callMO, ev_dMeth, ev_dMethO, ev_dProp, ev_dMakeA, pxD_nil, pxD_cons, ev_xNil, ev_xCons, ev_xOwn, putXs_nil, putXs_sh, putXs_ow, ev_parX, ev_iEnumAD, o_mulI, o_mulL, ev_needS, ev_dCallS, ev_callS, ev_aSlot, ev_dCallB, ev_callB, lent_nil, lent_sh, lent_sl, scal_bl, ev_starM, ev_take0, ev_take1, ev_drop0, ev_drop1, ev_dCallStar, ev_dMethStar, ev_dMakeN, ev_isk_int, ev_isk_str, ev_keyT, ev_slDic, ev_slPutD, ev_dInS, ev_dPutS, ev_dicOf, ev_dGet2P, ev_aStarVals, ev_clrS, ev_clrT, List.getElem?_cons_zero, List.getElem?_cons_succ, List.getElem?_nil, List.set_cons_zero, List.set_cons_succ, List.set_nil, List.map_cons, List.map_nil, List.cons_append, List.nil_append, List.length_cons, List.length_nil, Option.map_some, Option.map_none, reduceIte, if_true, ite_true, ite_false, if_false, Bool.and_true, Bool.true_and, Bool.and_false, Bool.false_and, Bool.or_true, Bool.true_or, Bool.or_false, Bool.false_or, Bool.not_true, Bool.not_false, Bool.true_eq_false, Bool.false_eq_true, decide_true, decide_false, Nat.reduceAdd, Nat.reduceSub, Nat.reduceMul, Nat.reduceLeDiff, Nat.reduceLT, Nat.reduceEqDiff, Nat.reduceBEq, Int.reduceLT, Int.reduceLE, Int.reduceEq, Int.reduceAdd, Int.reduceSub, Int.reduceBEq, List.reduceReplicate, List.contains_cons, List.contains_nil, List.lookup_cons, Option.isSome_some, Option.isSome_none, beq_self_eq_true, bne_self_eq_false, List.all_cons, List.all_nil, List.any_cons, List.any_nil, Nat.zero_add, List.append_nil, and_true, true_and, and_self, decide_eq_true_eq, Nat.reduceDiv, Int.toNat_natCast, List.getD_cons_zero, List.getD_cons_succ, Int.cast_ofNat_Int, Int.natCast_zero, Nat.le_refl, Nat.reduceBNe, Int.reduceBNe, Bool.and_self, Bool.or_self, not_true_eq_false, not_false_eq_true, ne_eq, reduceCtorEq, *])
/-! ### motions -/
def stD (x : Int × List Nat) : D := .tup [.int x.1, .str x.2]
/-! ### what a rig plays -/
end DS
namespace DS
local macro_rules | `(tactic| decreasing_trivial) => `(tactic| simp only [ev_runD, ev_fin_nx, ev_fin_rt, ev_fin_ex, ev_outs_nil, ev_outs_pin, ev_outs_non, ev_outs_bl, ev_outs_int, ev_outs_str, ev_outs_tup, ev_outs_lst, ev_outs_dic, ev_outs_ins, ev_startD, ev_seqS, ev_nxS, ev_bkS, ev_ctS, ev_retN, ev_bS, ev_dropS, ev_retS, ev_retO, ev_ifS, ev_setS, ev_setO, ev_toS, ev_putS, ev_freeSl, np_none, np_own, np_pin, np_non, np_bl, np_int, np_str, np_tup, np_lst, np_dic, np_ins, sh_non, sh_bl, sh_int, sh_str, sh_tup, sh_lst, sh_dic, sh_ins, sh_own, sh_pin, ev_lift, ev_liftN, ev_bE, ev_bB, ev_bA, ev_cB, ev_cBB, ev_retB, ev_dVar, ev_dC, ev_dOp, ev_dUn, ev_toB, ev_truB, ev_notB, ev_andB, ev_orB, ev_andV, ev_orV, ev_notV, ev_ifV, ev_chainV, ev_isNonV, ev_notNonV, ev_aNil, ev_aCons, ev_aStar, ev_shs_nil, ev_shs, shs_app, ev_bL, ev_dTup, ev_dLst, ev_dCall, ev_dCallN, ev_dCallNO, ev_dFrz, frz_lst, frz_dic, frz_ins, ev_dVarF, ev_retV, ev_asgS, ev_gmName, ev_gmTup, ev_gmNil, ev_gmCons, ev_forS, ev_liftI, ev_bIE, ev_bIA, ev_iSeq, ev_seq_lst, ev_seq_tup, ev_seq_str, ev_items_lst, ev_items_tup, ev_iRange1, ev_iRange2, ev_dSlice, ev_optN, ev_optS, ev_altE, ev_isiD, ev_isiT, kd_non, kd_bl, kd_int, kd_str, kd_tup, kd_lst, kd_dic, kd_ins, tab_bb, tab_bo, tab_ob, tab_oo, cd0, cd1, cd2, cd3, cd4, cd5, cd6, tru_non, tru_bl, tru_int, tru_str, tru_lst, tru_tup, len_str, len_lst, len_tup, o_sub, o_lt, o_le, o_gt, o_ge, o_mod, o_div, o_neg, o_addI, o_addS, o_addL, o_addT, o_isB, o_notB, o_eqI, o_neI, o_eqS, o_neS, o_eqB, o_neB, o_eqNI, o_eqIN, o_inS, o_ixL, o_ixT, o_ixS, atD_0, atD_1, atD_2, atD_3, atD_4, listA_lst, listA_tup, fInt_int, ev_slIns, ev_dFldS, ev_fldS, ev_slInsPut, putFD_nil, putFD_cons, ev_oFld, ev_slLst, ev_slPut, ev_dIxS, ev_lenS, ev_appS, ev_stoS, ev_dMethS, ev_dMethSO, ev_onS, ev_callS0, ev_onC, ev_isC, ev_callM, ev_callMO, ev_dMeth, ev_dMethO, ev_dProp, ev_dMakeA, pxD_nil, pxD_cons, ev_xNil, ev_xCons, ev_xOwn, putXs_nil, putXs_sh, putXs_ow, ev_parX, ev_iEnumAD, o_mulI, o_mulL, ev_needS, ev_dCallS, ev_callS, ev_aSlot, ev_dCallB, ev_callB, lent_nil, lent_sh, lent_sl, scal_bl, ev_starM, ev_take0, ev_take1, ev_drop0, ev_drop1, ev_dCallStar, ev_dMethStar, ev_dMakeN, ev_isk_int, ev_isk_str, ev_keyT, ev_slDic, ev_slPutD, ev_dInS, ev_dPutS, ev_dicOf, ev_dGet2P, ev_aStarVals, ev_clrS, ev_clrT, List.getElem?_cons_zero, List.getElem?_cons_succ, List.getElem?_nil, List.set_cons_zero, List.set_cons_succ, List.set_nil, List.map_cons, List.map_nil, List.cons_append, List.nil_append, List.length_cons, List.length_nil, Option.map_some, Option.map_none, reduceIte, if_true, ite_true, ite_false, if_false, Bool.and_true, Bool.true_and, Bool.and_false, Bool.false_and, Bool.or_true, Bool.true_or, Bool.or_false, Bool.false_or, Bool.not_true, Bool.not_false, Bool.true_eq_false, Bool.false_eq_true, decide_true, decide_false, Nat.reduceAdd, Nat.reduceSub, Nat.reduceMul, Nat.reduceLeDiff, Nat.reduceLT, Nat.reduceEqDiff, Nat.reduceBEq, Int.reduceLT, Int.reduceLE, Int.reduceEq, Int.reduceAdd, Int.reduceSub, Int.reduceBEq, List.reduceReplicate, List.contains_cons, List.contains_nil, List.lookup_cons, Option.isSome_some, Option.isSome_none, beq_self_eq_true, bne_self_eq_false, List.all_cons, List.all_nil, List.any_cons, List.any_nil, Nat.zero_add, List.append_nil, and_true, true_and, and_self, decide_eq_true_eq, Nat.reduceDiv, Int.toNat_natCast, List.getD_cons_zero, List.getD_cons_succ, Int.cast_ofNat_Int, Int.natCast_zero, Nat.le_refl, Nat.reduceBNe, Int.reduceBNe, Bool.and_self, Bool.or_self, not_true_eq_false, not_false_eq_true, ne_eq, reduceCtorEq, *])
/-! ### the steps of a place, each once -/
/-! ### a motion is drawn, again -/
/-! ### what stands behind a motion -/
/-! ### the branch of a step -/
end DS
namespace DS
local macro_rules | `(tactic| decreasing_trivial) => `(tactic| simp only [ev_runD, ev_fin_nx, ev_fin_rt, ev_fin_ex, ev_outs_nil, ev_outs_pin, ev_outs_non, ev_outs_bl, ev_outs_int, ev_outs_str, ev_outs_tup, ev_outs_lst, ev_outs_dic, ev_outs_ins, ev_startD, ev_seqS, ev_nxS, ev_bkS, ev_ctS, ev_retN, ev_bS, ev_dropS, ev_retS, ev_retO, ev_ifS, ev_setS, ev_setO, ev_toS, ev_putS, ev_freeSl, np_none, np_own, np_pin, np_non, np_bl, np_int, np_str, np_tup, np_lst, np_dic, np_ins, sh_non, sh_bl, sh_int, sh_str, sh_tup, sh_lst, sh_dic, sh_ins, sh_own, sh_pin, ev_lift, ev_liftN, ev_bE, ev_bB, ev_bA, ev_cB, ev_cBB, ev_retB, ev_dVar, ev_dC, ev_dOp, ev_dUn, ev_toB, ev_truB, ev_notB, ev_andB, ev_orB, ev_andV, ev_orV, ev_notV, ev_ifV, ev_chainV, ev_isNonV, ev_notNonV, ev_aNil, ev_aCons, ev_aStar, ev_shs_nil, ev_shs, shs_app, ev_bL, ev_dTup, ev_dLst, ev_dCall, ev_dCallN, ev_dCallNO, ev_dFrz, frz_lst, frz_dic, frz_ins, ev_dVarF, ev_retV, ev_asgS, ev_gmName, ev_gmTup, ev_gmNil, ev_gmCons, ev_forS, ev_liftI, ev_bIE, ev_bIA, ev_iSeq, ev_seq_lst, ev_seq_tup, ev_seq_str, ev_items_lst, ev_items_tup, ev_iRange1, ev_iRange2, ev_dSlice, ev_optN, ev_optS, ev_altE, ev_isiD, ev_isiT, kd_non, kd_bl, kd_int, kd_str, kd_tup, kd_lst, kd_dic, kd_ins, tab_bb, tab_bo, tab_ob, tab_oo, cd0, cd1, cd2, cd3, cd4, cd5, cd6, tru_non, tru_bl, tru_int, tru_str, tru_lst, tru_tup, len_str, len_lst, len_tup, o_sub, o_lt, o_le, o_gt, o_ge, o_mod, o_div, o_neg, o_addI, o_addS, o_addL, o_addT, o_isB, o_notB, o_eqI, o_neI, o_eqS, o_neS, o_eqB, o_neB, o_eqNI, o_eqIN, o_inS, o_ixL, o_ixT, o_ixS, atD_0, atD_1, atD_2, atD_3, atD_4, listA_lst, listA_tup, fInt_int, ev_slIns, ev_dFldS, ev_fldS, ev_slInsPut, putFD_nil, putFD_cons, ev_oFld, ev_slLst, ev_slPut, ev_dIxS, ev_lenS, ev_appS, ev_stoS, ev_dMethS, ev_dMethSO, ev_onS, ev_callS0, ev_onC, ev_isC, ev_callM, ev_callMO, ev_dMeth, ev_dMethO, ev_dProp, ev_dMakeA, pxD_nil, pxD_cons, ev_xNil, ev_xCons, ev_xOwn, putXs_nil, putXs_sh, putXs_ow, ev_parX, ev_iEnumAD, o_mulI, o_mulL, ev_needS, ev_dCallS, ev_callS, ev_aSlot, ev_dCallB, ev_callB, lent_nil, lent_sh, lent_sl, scal_bl, ev_starM, ev_take0, ev_take1, ev_drop0, ev_drop1, ev_dCallStar, ev_dMethStar, ev_dMakeN, ev_isk_int, ev_isk_str, ev_keyT, ev_slDic, ev_slPutD, ev_dInS, ev_dPutS, ev_dicOf, ev_dGet2P, ev_aStarVals, ev_clrS, ev_clrT, List.getElem?_cons_zero, List.getElem?_cons_succ, List.getElem?_nil, List.set_cons_zero, List.set_cons_succ, List.set_nil, List.map_cons, List.map_nil, List.cons_append, List.nil_append, List.length_cons, List.length_nil, Option.map_some, Option.map_none, reduceIte, if_true, ite_true, ite_false, if_false, Bool.and_true, Bool.true_and, Bool.and_false, Bool.false_and, Bool.or_true, Bool.true_or, Bool.or_false, Bool.false_or, Bool.not_true, Bool.not_false, Bool.true_eq_false, Bool.false_eq_true, decide_true, decide_false, Nat.reduceAdd, Nat.reduceSub, Nat.reduceMul, Nat.reduceLeDiff, Nat.reduceLT, Nat.reduceEqDiff, Nat.reduceBEq, Int.reduceLT, Int.reduceLE, Int.reduceEq, Int.reduceAdd, Int.reduceSub, Int.reduceBEq, List.reduceReplicate, List.contains_cons, List.contains_nil, List.lookup_cons, Option.isSome_some, Option.isSome_none, beq_self_eq_true, bne_self_eq_false, List.all_cons, List.all_nil, List.any_cons, List.any_nil, Nat.zero_add, List.append_nil, and_true, true_and, and_self, decide_eq_true_eq, Nat.reduceDiv, Int.toNat_natCast, List.getD_cons_zero, List.getD_cons_succ, Int.cast_ofNat_Int, Int.natCast_zero, Nat.le_refl, Nat.reduceBNe, Int.reduceBNe, Bool.and_self, Bool.or_self, not_true_eq_false, not_false_eq_true, ne_eq, reduceCtorEq, *])
end DS
namespace DS
local macro_rules | `(tactic| decreasing_trivial) => `(tactic| simp only [ev_runD, ev_fin_nx, ev_fin_rt, ev_fin_ex, ev_outs_nil, ev_outs_pin, ev_outs_non, ev_outs_bl, ev_outs_int, ev_outs_str, ev_outs_tup, ev_outs_lst, ev_outs_dic, ev_outs_ins, ev_startD, ev_seqS, ev_nxS, ev_bkS, ev_ctS, ev_retN, ev_bS, ev_dropS, ev_retS, ev_retO, ev_ifS, ev_setS, ev_setO, ev_toS, ev_putS, ev_freeSl, np_none, np_own, np_pin, np_non, np_bl, np_int, np_str, np_tup, np_lst, np_dic, np_ins, sh_non, sh_bl, sh_int, sh_str, sh_tup, sh_lst, sh_dic, sh_ins, sh_own, sh_pin, ev_lift, ev_liftN, ev_bE, ev_bB, ev_bA, ev_cB, ev_cBB, ev_retB, ev_dVar, ev_dC, ev_dOp, ev_dUn, ev_toB, ev_truB, ev_notB, ev_andB, ev_orB, ev_andV, ev_orV, ev_notV, ev_ifV, ev_chainV, ev_isNonV, ev_notNonV, ev_aNil, ev_aCons, ev_aStar, ev_shs_nil, ev_shs, shs_app, ev_bL, ev_dTup, ev_dLst, ev_dCall, ev_dCallN, ev_dCallNO, ev_dFrz, frz_lst, frz_dic, frz_ins, ev_dVarF, ev_retV, ev_asgS, ev_gmName, ev_gmTup, ev_gmNil, ev_gmCons, ev_forS, ev_liftI, ev_bIE, ev_bIA, ev_iSeq, ev_seq_lst, ev_seq_tup, ev_seq_str, ev_items_lst, ev_items_tup, ev_iRange1, ev_iRange2, ev_dSlice, ev_optN, ev_optS, ev_altE, ev_isiD, ev_isiT, kd_non, kd_bl, kd_int, kd_str, kd_tup, kd_lst, kd_dic, kd_ins, tab_bb, tab_bo, tab_ob, tab_oo, cd0, cd1, cd2, cd3, cd4, cd5, cd6, tru_non, tru_bl, tru_int, tru_str, tru_lst, tru_tup, len_str, len_lst, len_tup, o_sub, o_lt, o_le, o_gt, o_ge, o_mod, o_div, o_neg, o_addI, o_addS, o_addL, o_addT, o_isB, o_notB, o_eqI, o_neI, o_eqS, o_neS, o_eqB, o_neB, o_eqNI, o_eqIN, o_inS, o_ixL, o_ixT, o_ixS, atD_0, atD_1, atD_2, atD_3, atD_4, listA_lst, listA_tup, fInt_int, ev_slIns, ev_dFldS, ev_fldS, ev_slInsPut, putFD_nil, putFD_cons, ev_oFld, ev_slLst, ev_slPut, ev_dIxS, ev_lenS, ev_appS, ev_stoS, ev_dMethS, ev_dMethSO, ev_onS, ev_callS0, ev_onC, ev_isC, ev_callM, ev_callMO, ev_dMeth, ev_dMethO, ev_dProp, ev_dMakeA, pxD_nil, pxD_cons, ev_xNil, ev_xCons, ev_xOwn, putXs_nil, putXs_sh, putXs_ow, ev_parX, ev_iEnumAD, o_mulI, o_mulL, ev_needS, ev_dCallS, ev_callS, ev_aSlot, ev_dCallB, ev_callB, lent_nil, lent_sh, lent_sl, scal_bl, ev_starM, ev_take0, ev_take1, ev_drop0, ev_drop1, ev_dCallStar, ev_dMethStar, ev_dMakeN, ev_isk_int, ev_isk_str, ev_keyT, ev_slDic, ev_slPutD, ev_dInS, ev_dPutS, ev_dicOf, ev_dGet2P, ev_aStarVals, ev_clrS, ev_clrT, List.getElem?_cons_zero, List.getElem?_cons_succ, List.getElem?_nil, List.set_cons_zero, List.set_cons_succ, List.set_nil, List.map_cons, List.map_nil, List.cons_append, List.nil_append, List.length_cons, List.length_nil, Option.map_some, Option.map_none, reduceIte, if_true, ite_true, ite_false, if_false, Bool.and_true, Bool.true_and, Bool.and_false, Bool.false_and, Bool.or_true, Bool.true_or, Bool.or_false, Bool.false_or, Bool.not_true, Bool.not_false, Bool.true_eq_false, Bool.false_eq_true, decide_true, decide_false, Nat.reduceAdd, Nat.reduceSub, Nat.reduceMul, Nat.reduceLeDiff, Nat.reduceLT, Nat.reduceEqDiff, Nat.reduceBEq, Int.reduceLT, Int.reduceLE, Int.reduceEq, Int.reduceAdd, Int.reduceSub, Int.reduceBEq, List.reduceReplicate, List.contains_cons, List.contains_nil, List.lookup_cons, Option.isSome_some, Option.isSome_none, beq_self_eq_true, bne_self_eq_false, List.all_cons, List.all_nil, List.any_cons, List.any_nil, Nat.zero_add, List.append_nil, and_true, true_and, and_self, decide_eq_true_eq, Nat.reduceDiv, Int.toNat_natCast, List.getD_cons_zero, List.getD_cons_succ, Int.cast_ofNat_Int, Int.natCast_zero, Nat.le_refl, Nat.reduceBNe, Int.reduceBNe, Bool.and_self, Bool.or_self, not_true_eq_false, not_false_eq_true, ne_eq, reduceCtorEq, *])
/-! ### what a rig plays, row by row -/
end DS
namespace DS
local macro_rules | `(tactic| decreasing_trivial) => `(tactic| simp only [ev_runD, ev_fin_nx, ev_fin_rt, ev_fin_ex, ev_outs_nil, ev_outs_pin, ev_outs_non, ev_outs_bl, ev_outs_int, ev_outs_str, ev_outs_tup, ev_outs_lst, ev_outs_dic, ev_outs_ins, ev_startD, ev_seqS, ev_nxS, ev_bkS, ev_ctS, ev_retN, ev_bS, ev_dropS, ev_retS, ev_retO, ev_ifS, ev_setS, ev_setO, ev_toS, ev_putS, ev_freeSl, np_none, np_own, np_pin, np_non, np_bl, np_int, np_str, np_tup, np_lst, np_dic, np_ins, sh_non, sh_bl, sh_int, sh_str, sh_tup, sh_lst, sh_dic, sh_ins, sh_own, sh_pin, ev_lift, ev_liftN, ev_bE, ev_bB, ev_bA, ev_cB, ev_cBB, ev_retB, ev_dVar, ev_dC, ev_dOp, ev_dUn, ev_toB, ev_truB, ev_notB, ev_andB, ev_orB, ev_andV, ev_orV, ev_notV, ev_ifV, ev_chainV, ev_isNonV, ev_notNonV, ev_aNil, ev_aCons, ev_aStar, ev_shs_nil, ev_shs, shs_app, ev_bL, ev_dTup, ev_dLst, ev_dCall, ev_dCallN, ev_dCallNO, ev_dFrz, frz_lst, frz_dic, frz_ins, ev_dVarF, ev_retV, ev_asgS, ev_gmName, ev_gmTup, ev_gmNil, ev_gmCons, ev_forS, ev_liftI, ev_bIE, ev_bIA, ev_iSeq, ev_seq_lst, ev_seq_tup, ev_seq_str, ev_items_lst, ev_items_tup, ev_iRange1, ev_iRange2, ev_dSlice, ev_optN, ev_optS, ev_altE, ev_isiD, ev_isiT, kd_non, kd_bl, kd_int, kd_str, kd_tup, kd_lst, kd_dic, kd_ins, tab_bb, tab_bo, tab_ob, tab_oo, cd0, cd1, cd2, cd3, cd4, cd5, cd6, tru_non, tru_bl, tru_int, tru_str, tru_lst, tru_tup, len_str, len_lst, len_tup, o_sub, o_lt, o_le, o_gt, o_ge, o_mod, o_div, o_neg, o_addI, o_addS, o_addL, o_addT, o_isB, o_notB, o_eqI, o_neI, o_eqS, o_neS, o_eqB, o_neB, o_eqNI, o_eqIN, o_inS, o_ixL, o_ixT, o_ixS, atD_0, atD_1, atD_2, atD_3, atD_4, listA_lst, listA_tup, fInt_int, ev_slIns, ev_dFldS, ev_fldS, ev_slInsPut, putFD_nil, putFD_cons, ev_oFld, ev_slLst, ev_slPut, ev_dIxS, ev_lenS, ev_appS, ev_stoS, ev_dMethS, ev_dMethSO, ev_onS, ev_callS0, ev_onC, ev_isC, ev_callM, ev_callMO, ev_dMeth, ev_dMethO, ev_dProp, ev_dMakeA, pxD_nil, pxD_cons, ev_xNil, ev_xCons, ev_xOwn, putXs_nil, putXs_sh, putXs_ow, ev_parX, ev_iEnumAD, o_mulI, o_mulL, ev_needS, ev_dCallS, ev_callS, ev_aSlot, ev_dCallB, ev_callB, lent_nil, lent_sh, lent_sl, scal_bl, ev_starM, ev_take0, ev_take1, ev_drop0, ev_drop1, ev_dCallStar, ev_dMethStar, ev_dMakeN, ev_isk_int, ev_isk_str, ev_keyT, ev_slDic, ev_slPutD, ev_dInS, ev_dPutS, ev_dicOf, ev_dGet2P, ev_aStarVals, ev_clrS, ev_clrT, List.getElem?_cons_zero, List.getElem?_cons_succ, List.getElem?_nil, List.set_cons_zero, List.set_cons_succ, List.set_nil, List.map_cons, List.map_nil, List.cons_append, List.nil_append, List.length_cons, List.length_nil, Option.map_some, Option.map_none, reduceIte, if_true, ite_true, ite_false, if_false, Bool.and_true, Bool.true_and, Bool.and_false, Bool.false_and, Bool.or_true, Bool.true_or, Bool.or_false, Bool.false_or, Bool.not_true, Bool.not_false, Bool.true_eq_false, Bool.false_eq_true, decide_true, decide_false, Nat.reduceAdd, Nat.reduceSub, Nat.reduceMul, Nat.reduceLeDiff, Nat.reduceLT, Nat.reduceEqDiff, Nat.reduceBEq, Int.reduceLT, Int.reduceLE, Int.reduceEq, Int.reduceAdd, Int.reduceSub, Int.reduceBEq, List.reduceReplicate, List.contains_cons, List.contains_nil, List.lookup_cons, Option.isSome_some, Option.isSome_none, beq_self_eq_true, bne_self_eq_false, List.all_cons, List.all_nil, List.any_cons, List.any_nil, Nat.zero_add, List.append_nil, and_true, true_and, and_self, decide_eq_true_eq, Nat.reduceDiv, Int.toNat_natCast, List.getD_cons_zero, List.getD_cons_succ, Int.cast_ofNat_Int, Int.natCast_zero, Nat.le_refl, Nat.reduceBNe, Int.reduceBNe, Bool.and_self, Bool.or_self, not_true_eq_false, not_false_eq_true, ne_eq, reduceCtorEq, *])
/-! ### the rows of a table, sorted -/
end DS
namespace DS
local macro_rules | `(tactic| decreasing_trivial) => `(tactic| simp only [ev_runD, ev_fin_nx, ev_fin_rt, ev_fin_ex, ev_outs_nil, ev_outs_pin, ev_outs_non, ev_outs_bl, ev_outs_int, ev_outs_str, ev_outs_tup, ev_outs_lst, ev_outs_dic, ev_outs_ins, ev_startD, ev_seqS, ev_nxS, ev_bkS, ev_ctS, ev_retN, ev_bS, ev_dropS, ev_retS, ev_retO, ev_ifS, ev_setS, ev_setO, ev_toS, ev_putS, ev_freeSl, np_none, np_own, np_pin, np_non, np_bl, np_int, np_str, np_tup, np_lst, np_dic, np_ins, sh_non, sh_bl, sh_int, sh_str, sh_tup, sh_lst, sh_dic, sh_ins, sh_own, sh_pin, ev_lift, ev_liftN, ev_bE, ev_bB, ev_bA, ev_cB, ev_cBB, ev_retB, ev_dVar, ev_dC, ev_dOp, ev_dUn, ev_toB, ev_truB, ev_notB, ev_andB, ev_orB, ev_andV, ev_orV, ev_notV, ev_ifV, ev_chainV, ev_isNonV, ev_notNonV, ev_aNil, ev_aCons, ev_aStar, ev_shs_nil, ev_shs, shs_app, ev_bL, ev_dTup, ev_dLst, ev_dCall, ev_dCallN, ev_dCallNO, ev_dFrz, frz_lst, frz_dic, frz_ins, ev_dVarF, ev_retV, ev_asgS, ev_gmName, ev_gmTup, ev_gmNil, ev_gmCons, ev_forS, ev_liftI, ev_bIE, ev_bIA, ev_iSeq, ev_seq_lst, ev_seq_tup, ev_seq_str, ev_items_lst, ev_items_tup, ev_iRange1, ev_iRange2, ev_dSlice, ev_optN, ev_optS, ev_altE, ev_isiD, ev_isiT, kd_non, kd_bl, kd_int, kd_str, kd_tup, kd_lst, kd_dic, kd_ins, tab_bb, tab_bo, tab_ob, tab_oo, cd0, cd1, cd2, cd3, cd4, cd5, cd6, tru_non, tru_bl, tru_int, tru_str, tru_lst, tru_tup, len_str, len_lst, len_tup, o_sub, o_lt, o_le, o_gt, o_ge, o_mod, o_div, o_neg, o_addI, o_addS, o_addL, o_addT, o_isB, o_notB, o_eqI, o_neI, o_eqS, o_neS, o_eqB, o_neB, o_eqNI, o_eqIN, o_inS, o_ixL, o_ixT, o_ixS, atD_0, atD_1, atD_2, atD_3, atD_4, listA_lst, listA_tup, fInt_int, ev_slIns, ev_dFldS, ev_fldS, ev_slInsPut, putFD_nil, putFD_cons, ev_oFld, ev_slLst, ev_slPut, ev_dIxS, ev_lenS, ev_appS, ev_stoS, ev_dMethS, ev_dMethSO, ev_onS, ev_callS0, ev_onC, ev_isC, ev_callM, ev_callMO, ev_dMeth, ev_dMethO, ev_dProp, ev_dMakeA, pxD_nil, pxD_cons, ev_xNil, ev_xCons, ev_xOwn, putXs_nil, putXs_sh, putXs_ow, ev_parX, ev_iEnumAD, o_mulI, o_mulL, ev_needS, ev_dCallS, ev_callS, ev_aSlot, ev_dCallB, ev_callB, lent_nil, lent_sh, lent_sl, scal_bl, ev_starM, ev_take0, ev_take1, ev_drop0, ev_drop1, ev_dCallStar, ev_dMethStar, ev_dMakeN, ev_isk_int, ev_isk_str, ev_keyT, ev_slDic, ev_slPutD, ev_dInS, ev_dPutS, ev_dicOf, ev_dGet2P, ev_aStarVals, ev_clrS, ev_clrT, List.getElem?_cons_zero, List.getElem?_cons_succ, List.getElem?_nil, List.set_cons_zero, List.set_cons_succ, List.set_nil, List.map_cons, List.map_nil, List.cons_append, List.nil_append, List.length_cons, List.length_nil, Option.map_some, Option.map_none, reduceIte, if_true, ite_true, ite_false, if_false, Bool.and_true, Bool.true_and, Bool.and_false, Bool.false_and, Bool.or_true, Bool.true_or, Bool.or_false, Bool.false_or, Bool.not_true, Bool.not_false, Bool.true_eq_false, Bool.false_eq_true, decide_true, decide_false, Nat.reduceAdd, Nat.reduceSub, Nat.reduceMul, Nat.reduceLeDiff, Nat.reduceLT, Nat.reduceEqDiff, Nat.reduceBEq, Int.reduceLT, Int.reduceLE, Int.reduceEq, Int.reduceAdd, Int.reduceSub, Int.reduceBEq, List.reduceReplicate, List.contains_cons, List.contains_nil, List.lookup_cons, Option.isSome_some, Option.isSome_none, beq_self_eq_true, bne_self_eq_false, List.all_cons, List.all_nil, List.any_cons, List.any_nil, Nat.zero_add, List.append_nil, and_true, true_and, and_self, decide_eq_true_eq, Nat.reduceDiv, Int.toNat_natCast, List.getD_cons_zero, List.getD_cons_succ, Int.cast_ofNat_Int, Int.natCast_zero, Nat.le_refl, Nat.reduceBNe, Int.reduceBNe, Bool.and_self, Bool.or_self, not_true_eq_false, not_false_eq_true, ne_eq, reduceCtorEq, *])
/-! ### the derived table's rows, told -/
/-! ### they ascend -/
/-! ### tables are equal to themselves -/
end DS
namespace DS
local macro_rules | `(tactic| decreasing_trivial) => `(tactic| simp only [ev_runD, ev_fin_nx, ev_fin_rt, ev_fin_ex, ev_outs_nil, ev_outs_pin, ev_outs_non, ev_outs_bl, ev_outs_int, ev_outs_str, ev_outs_tup, ev_outs_lst, ev_outs_dic, ev_outs_ins, ev_startD, ev_seqS, ev_nxS, ev_bkS, ev_ctS, ev_retN, ev_bS, ev_dropS, ev_retS, ev_retO, ev_ifS, ev_setS, ev_setO, ev_toS, ev_putS, ev_freeSl, np_none, np_own, np_pin, np_non, np_bl, np_int, np_str, np_tup, np_lst, np_dic, np_ins, sh_non, sh_bl, sh_int, sh_str, sh_tup, sh_lst, sh_dic, sh_ins, sh_own, sh_pin, ev_lift, ev_liftN, ev_bE, ev_bB, ev_bA, ev_cB, ev_cBB, ev_retB, ev_dVar, ev_dC, ev_dOp, ev_dUn, ev_toB, ev_truB, ev_notB, ev_andB, ev_orB, ev_andV, ev_orV, ev_notV, ev_ifV, ev_chainV, ev_isNonV, ev_notNonV, ev_aNil, ev_aCons, ev_aStar, ev_shs_nil, ev_shs, shs_app, ev_bL, ev_dTup, ev_dLst, ev_dCall, ev_dCallN, ev_dCallNO, ev_dFrz, frz_lst, frz_dic, frz_ins, ev_dVarF, ev_retV, ev_asgS, ev_gmName, ev_gmTup, ev_gmNil, ev_gmCons, ev_forS, ev_liftI, ev_bIE, ev_bIA, ev_iSeq, ev_seq_lst, ev_seq_tup, ev_seq_str, ev_items_lst, ev_items_tup, ev_iRange1, ev_iRange2, ev_dSlice, ev_optN, ev_optS, ev_altE, ev_isiD, ev_isiT, kd_non, kd_bl, kd_int, kd_str, kd_tup, kd_lst, kd_dic, kd_ins, tab_bb, tab_bo, tab_ob, tab_oo, cd0, cd1, cd2, cd3, cd4, cd5, cd6, tru_non, tru_bl, tru_int, tru_str, tru_lst, tru_tup, len_str, len_lst, len_tup, o_sub, o_lt, o_le, o_gt, o_ge, o_mod, o_div, o_neg, o_addI, o_addS, o_addL, o_addT, o_isB, o_notB, o_eqI, o_neI, o_eqS, o_neS, o_eqB, o_neB, o_eqNI, o_eqIN, o_inS, o_ixL, o_ixT, o_ixS, atD_0, atD_1, atD_2, atD_3, atD_4, listA_lst, listA_tup, fInt_int, ev_slIns, ev_dFldS, ev_fldS, ev_slInsPut, putFD_nil, putFD_cons, ev_oFld, ev_slLst, ev_slPut, ev_dIxS, ev_lenS, ev_appS, ev_stoS, ev_dMethS, ev_dMethSO, ev_onS, ev_callS0, ev_onC, ev_isC, ev_callM, ev_callMO, ev_dMeth, ev_dMethO, ev_dProp, ev_dMakeA, pxD_nil, pxD_cons, ev_xNil, ev_xCons, ev_xOwn, putXs_nil, putXs_sh, putXs_ow, ev_parX, ev_iEnumAD, o_mulI, o_mulL, ev_needS, ev_dCallS, ev_callS, ev_aSlot, ev_dCallB, ev_callB, lent_nil, lent_sh, lent_sl, scal_bl, ev_starM, ev_take0, ev_take1, ev_drop0, ev_drop1, ev_dCallStar, ev_dMethStar, ev_dMakeN, ev_isk_int, ev_isk_str, ev_keyT, ev_slDic, ev_slPutD, ev_dInS, ev_dPutS, ev_dicOf, ev_dGet2P, ev_aStarVals, ev_clrS, ev_clrT, List.getElem?_cons_zero, List.getElem?_cons_succ, List.getElem?_nil, List.set_cons_zero, List.set_cons_succ, List.set_nil, List.map_cons, List.map_nil, List.cons_append, List.nil_append, List.length_cons, List.length_nil, Option.map_some, Option.map_none, reduceIte, if_true, ite_true, ite_false, if_false, Bool.and_true, Bool.true_and, Bool.and_false, Bool.false_and, Bool.or_true, Bool.true_or, Bool.or_false, Bool.false_or, Bool.not_true, Bool.not_false, Bool.true_eq_false, Bool.false_eq_true, decide_true, decide_false, Nat.reduceAdd, Nat.reduceSub, Nat.reduceMul, Nat.reduceLeDiff, Nat.reduceLT, Nat.reduceEqDiff, Nat.reduceBEq, Int.reduceLT, Int.reduceLE, Int.reduceEq, Int.reduceAdd, Int.reduceSub, Int.reduceBEq, List.reduceReplicate, List.contains_cons, List.contains_nil, List.lookup_cons, Option.isSome_some, Option.isSome_none, beq_self_eq_true, bne_self_eq_false, List.all_cons, List.all_nil, List.any_cons, List.any_nil, Nat.zero_add, List.append_nil, and_true, true_and, and_self, decide_eq_true_eq, Nat.reduceDiv, Int.toNat_natCast, List.getD_cons_zero, List.getD_cons_succ, Int.cast_ofNat_Int, Int.natCast_zero, Nat.le_refl, Nat.reduceBNe, Int.reduceBNe, Bool.and_self, Bool.or_self, not_true_eq_false, not_false_eq_true, ne_eq, reduceCtorEq, *])
/-! ### rows in any order; tables that are equal -/
instance decRw : DecidableEq Rw := fun r s => decidable_of_iff (r.a = s.a ∧ r.b = s.b ∧ r.d = s.d) ⟨fun h => by
  cases r; cases s
  obtain ⟨h1, h2, h3⟩ := h
  subst h1 h2 h3
  rfl, fun h => by rw [h]; exact ⟨rfl, rfl, rfl⟩⟩
theorem nums_ok : ((List.range 65).all fun n => strB (numD (n : Int)) && decide ((numD (n : Int)).length ≤ 20)) = true := by decide +kernel
/-! tables -/
end DS
namespace DS
open PySem
local macro_rules | `(tactic| decreasing_trivial) => `(tactic| simp only [ev_runD, ev_fin_nx, ev_fin_rt, ev_fin_ex, ev_outs_nil, ev_outs_pin, ev_outs_non, ev_outs_bl, ev_outs_int, ev_outs_str, ev_outs_tup, ev_outs_lst, ev_outs_dic, ev_outs_ins, ev_startD, ev_seqS, ev_nxS, ev_bkS, ev_ctS, ev_retN, ev_bS, ev_dropS, ev_retS, ev_retO, ev_ifS, ev_setS, ev_setO, ev_toS, ev_putS, ev_freeSl, np_none, np_own, np_pin, np_non, np_bl, np_int, np_str, np_tup, np_lst, np_dic, np_ins, sh_non, sh_bl, sh_int, sh_str, sh_tup, sh_lst, sh_dic, sh_ins, sh_own, sh_pin, ev_lift, ev_liftN, ev_bE, ev_bB, ev_bA, ev_cB, ev_cBB, ev_retB, ev_dVar, ev_dC, ev_dOp, ev_dUn, ev_toB, ev_truB, ev_notB, ev_andB, ev_orB, ev_andV, ev_orV, ev_notV, ev_ifV, ev_chainV, ev_isNonV, ev_notNonV, ev_aNil, ev_aCons, ev_aStar, ev_shs_nil, ev_shs, shs_app, ev_bL, ev_dTup, ev_dLst, ev_dCall, ev_dCallN, ev_dCallNO, ev_dFrz, frz_lst, frz_dic, frz_ins, ev_dVarF, ev_retV, ev_asgS, ev_gmName, ev_gmTup, ev_gmNil, ev_gmCons, ev_forS, ev_liftI, ev_bIE, ev_bIA, ev_iSeq, ev_seq_lst, ev_seq_tup, ev_seq_str, ev_items_lst, ev_items_tup, ev_iRange1, ev_iRange2, ev_dSlice, ev_optN, ev_optS, ev_altE, ev_isiD, ev_isiT, kd_non, kd_bl, kd_int, kd_str, kd_tup, kd_lst, kd_dic, kd_ins, tab_bb, tab_bo, tab_ob, tab_oo, cd0, cd1, cd2, cd3, cd4, cd5, cd6, tru_non, tru_bl, tru_int, tru_str, tru_lst, tru_tup, len_str, len_lst, len_tup, o_sub, o_lt, o_le, o_gt, o_ge, o_mod, o_div, o_neg, o_addI, o_addS, o_addL, o_addT, o_isB, o_notB, o_eqI, o_neI, o_eqS, o_neS, o_eqB, o_neB, o_eqNI, o_eqIN, o_inS, o_ixL, o_ixT, o_ixS, atD_0, atD_1, atD_2, atD_3, atD_4, listA_lst, listA_tup, fInt_int, ev_slIns, ev_dFldS, ev_fldS, ev_slInsPut, putFD_nil, putFD_cons, ev_oFld, ev_slLst, ev_slPut, ev_dIxS, ev_lenS, ev_appS, ev_stoS, ev_dMethS, ev_dMethSO, ev_onS, ev_callS0, ev_onC, ev_isC, ev_callM, ev_callMO, ev_dMeth, ev_dMethO, ev_dProp, ev_dMakeA, pxD_nil, pxD_cons, ev_xNil, ev_xCons, ev_xOwn, putXs_nil, putXs_sh, putXs_ow, ev_parX, ev_iEnumAD, o_mulI, o_mulL, ev_needS, ev_dCallS, ev_callS, ev_aSlot, ev_dCallB, ev_callB, lent_nil, lent_sh, lent_sl, scal_bl, ev_starM, ev_take0, ev_take1, ev_drop0, ev_drop1, ev_dCallStar, ev_dMethStar, ev_dMakeN, ev_isk_int, ev_isk_str, ev_keyT, ev_slDic, ev_slPutD, ev_dInS, ev_dPutS, ev_dicOf, ev_dGet2P, ev_aStarVals, ev_clrS, ev_clrT, List.getElem?_cons_zero, List.getElem?_cons_succ, List.getElem?_nil, List.set_cons_zero, List.set_cons_succ, List.set_nil, List.map_cons, List.map_nil, List.cons_append, List.nil_append, List.length_cons, List.length_nil, Option.map_some, Option.map_none, reduceIte, if_true, ite_true, ite_false, if_false, Bool.and_true, Bool.true_and, Bool.and_false, Bool.false_and, Bool.or_true, Bool.true_or, Bool.or_false, Bool.false_or, Bool.not_true, Bool.not_false, Bool.true_eq_false, Bool.false_eq_true, decide_true, decide_false, Nat.reduceAdd, Nat.reduceSub, Nat.reduceMul, Nat.reduceLeDiff, Nat.reduceLT, Nat.reduceEqDiff, Nat.reduceBEq, Int.reduceLT, Int.reduceLE, Int.reduceEq, Int.reduceAdd, Int.reduceSub, Int.reduceBEq, List.reduceReplicate, List.contains_cons, List.contains_nil, List.lookup_cons, Option.isSome_some, Option.isSome_none, beq_self_eq_true, bne_self_eq_false, List.all_cons, List.all_nil, List.any_cons, List.any_nil, Nat.zero_add, List.append_nil, and_true, true_and, and_self, decide_eq_true_eq, Nat.reduceDiv, Int.toNat_natCast, List.getD_cons_zero, List.getD_cons_succ, Int.cast_ofNat_Int, Int.natCast_zero, Nat.le_refl, Nat.reduceBNe, Int.reduceBNe, Bool.and_self, Bool.or_self, not_true_eq_false, not_false_eq_true, ne_eq, reduceCtorEq, *])
theorem num_at {n : Nat} (h : n ≤ 64) : strB (numD (n : Int)) = true ∧ (numD (n : Int)).length ≤ 20 := by
  have := List.all_eq_true.mp nums_ok n (List.mem_range.mpr (by omega))
  rw [Bool.and_eq_true, decide_eq_true_eq] at this
  exact this
theorem log_small {n : Nat} (h : n ≤ 64) : (((n : Int).natAbs).log2 < 1920) := by
  by_cases z : n = 0
  · subst z; decide
  · have : (n : Int).natAbs = n := rfl
    rw [this, Nat.log2_lt z]
    exact Nat.lt_of_le_of_lt h (Nat.lt_of_lt_of_le (by decide : 64 < 2 ^ 7) (Nat.pow_le_pow_right (by decide) (by decide)))
theorem fmt_num {n : Nat} (h : n ≤ 64) : fFmt (.int (n : Int)) = some (.str (numD n)) := by
  show (if (decide ((n : Int).natAbs.log2 < 1920) && strB (numD n)) = true then some (D.str (numD n)) else none) = _
  rw [(num_at h).1, decide_eq_true (log_small h)]
  rfl
theorem str_num {n : Nat} (h : n ≤ 64) : fStr [.int (n : Int)] = some (.str (numD n)) := by
  show (if (decide ((n : Int).natAbs.log2 < 1920) && strB (numD n)) = true then some (D.str (numD n)) else none) = _
  rw [(num_at h).1, decide_eq_true (log_small h)]
  rfl
/-! ### draws -/
end DS
namespace DS
local macro_rules | `(tactic| decreasing_trivial) => `(tactic| simp only [ev_runD, ev_fin_nx, ev_fin_rt, ev_fin_ex, ev_outs_nil, ev_outs_pin, ev_outs_non, ev_outs_bl, ev_outs_int, ev_outs_str, ev_outs_tup, ev_outs_lst, ev_outs_dic, ev_outs_ins, ev_startD, ev_seqS, ev_nxS, ev_bkS, ev_ctS, ev_retN, ev_bS, ev_dropS, ev_retS, ev_retO, ev_ifS, ev_setS, ev_setO, ev_toS, ev_putS, ev_freeSl, np_none, np_own, np_pin, np_non, np_bl, np_int, np_str, np_tup, np_lst, np_dic, np_ins, sh_non, sh_bl, sh_int, sh_str, sh_tup, sh_lst, sh_dic, sh_ins, sh_own, sh_pin, ev_lift, ev_liftN, ev_bE, ev_bB, ev_bA, ev_cB, ev_cBB, ev_retB, ev_dVar, ev_dC, ev_dOp, ev_dUn, ev_toB, ev_truB, ev_notB, ev_andB, ev_orB, ev_andV, ev_orV, ev_notV, ev_ifV, ev_chainV, ev_isNonV, ev_notNonV, ev_aNil, ev_aCons, ev_aStar, ev_shs_nil, ev_shs, shs_app, ev_bL, ev_dTup, ev_dLst, ev_dCall, ev_dCallN, ev_dCallNO, ev_dFrz, frz_lst, frz_dic, frz_ins, ev_dVarF, ev_retV, ev_asgS, ev_gmName, ev_gmTup, ev_gmNil, ev_gmCons, ev_forS, ev_liftI, ev_bIE, ev_bIA, ev_iSeq, ev_seq_lst, ev_seq_tup, ev_seq_str, ev_items_lst, ev_items_tup, ev_iRange1, ev_iRange2, ev_dSlice, ev_optN, ev_optS, ev_altE, ev_isiD, ev_isiT, kd_non, kd_bl, kd_int, kd_str, kd_tup, kd_lst, kd_dic, kd_ins, tab_bb, tab_bo, tab_ob, tab_oo, cd0, cd1, cd2, cd3, cd4, cd5, cd6, tru_non, tru_bl, tru_int, tru_str, tru_lst, tru_tup, len_str, len_lst, len_tup, o_sub, o_lt, o_le, o_gt, o_ge, o_mod, o_div, o_neg, o_addI, o_addS, o_addL, o_addT, o_isB, o_notB, o_eqI, o_neI, o_eqS, o_neS, o_eqB, o_neB, o_eqNI, o_eqIN, o_inS, o_ixL, o_ixT, o_ixS, atD_0, atD_1, atD_2, atD_3, atD_4, listA_lst, listA_tup, fInt_int, ev_slIns, ev_dFldS, ev_fldS, ev_slInsPut, putFD_nil, putFD_cons, ev_oFld, ev_slLst, ev_slPut, ev_dIxS, ev_lenS, ev_appS, ev_stoS, ev_dMethS, ev_dMethSO, ev_onS, ev_callS0, ev_onC, ev_isC, ev_callM, ev_callMO, ev_dMeth, ev_dMethO, ev_dProp, ev_dMakeA, pxD_nil, pxD_cons, ev_xNil, ev_xCons, ev_xOwn, putXs_nil, putXs_sh, putXs_ow, ev_parX, ev_iEnumAD, o_mulI, o_mulL, ev_needS, ev_dCallS, ev_callS, ev_aSlot, ev_dCallB, ev_callB, lent_nil, lent_sh, lent_sl, scal_bl, ev_starM, ev_take0, ev_take1, ev_drop0, ev_drop1, ev_dCallStar, ev_dMethStar, ev_dMakeN, ev_isk_int, ev_isk_str, ev_keyT, ev_slDic, ev_slPutD, ev_dInS, ev_dPutS, ev_dicOf, ev_dGet2P, ev_aStarVals, ev_clrS, ev_clrT, List.getElem?_cons_zero, List.getElem?_cons_succ, List.getElem?_nil, List.set_cons_zero, List.set_cons_succ, List.set_nil, List.map_cons, List.map_nil, List.cons_append, List.nil_append, List.length_cons, List.length_nil, Option.map_some, Option.map_none, reduceIte, if_true, ite_true, ite_false, if_false, Bool.and_true, Bool.true_and, Bool.and_false, Bool.false_and, Bool.or_true, Bool.true_or, Bool.or_false, Bool.false_or, Bool.not_true, Bool.not_false, Bool.true_eq_false, Bool.false_eq_true, decide_true, decide_false, Nat.reduceAdd, Nat.reduceSub, Nat.reduceMul, Nat.reduceLeDiff, Nat.reduceLT, Nat.reduceEqDiff, Nat.reduceBEq, Int.reduceLT, Int.reduceLE, Int.reduceEq, Int.reduceAdd, Int.reduceSub, Int.reduceBEq, List.reduceReplicate, List.contains_cons, List.contains_nil, List.lookup_cons, Option.isSome_some, Option.isSome_none, beq_self_eq_true, bne_self_eq_false, List.all_cons, List.all_nil, List.any_cons, List.any_nil, Nat.zero_add, List.append_nil, and_true, true_and, and_self, decide_eq_true_eq, Nat.reduceDiv, Int.toNat_natCast, List.getD_cons_zero, List.getD_cons_succ, Int.cast_ofNat_Int, Int.natCast_zero, Nat.le_refl, Nat.reduceBNe, Int.reduceBNe, Bool.and_self, Bool.or_self, not_true_eq_false, not_false_eq_true, ne_eq, reduceCtorEq, *])
end DS
namespace DS
local macro_rules | `(tactic| decreasing_trivial) => `(tactic| simp only [ev_runD, ev_fin_nx, ev_fin_rt, ev_fin_ex, ev_outs_nil, ev_outs_pin, ev_outs_non, ev_outs_bl, ev_outs_int, ev_outs_str, ev_outs_tup, ev_outs_lst, ev_outs_dic, ev_outs_ins, ev_startD, ev_seqS, ev_nxS, ev_bkS, ev_ctS, ev_retN, ev_bS, ev_dropS, ev_retS, ev_retO, ev_ifS, ev_setS, ev_setO, ev_toS, ev_putS, ev_freeSl, np_none, np_own, np_pin, np_non, np_bl, np_int, np_str, np_tup, np_lst, np_dic, np_ins, sh_non, sh_bl, sh_int, sh_str, sh_tup, sh_lst, sh_dic, sh_ins, sh_own, sh_pin, ev_lift, ev_liftN, ev_bE, ev_bB, ev_bA, ev_cB, ev_cBB, ev_retB, ev_dVar, ev_dC, ev_dOp, ev_dUn, ev_toB, ev_truB, ev_notB, ev_andB, ev_orB, ev_andV, ev_orV, ev_notV, ev_ifV, ev_chainV, ev_isNonV, ev_notNonV, ev_aNil, ev_aCons, ev_aStar, ev_shs_nil, ev_shs, shs_app, ev_bL, ev_dTup, ev_dLst, ev_dCall, ev_dCallN, ev_dCallNO, ev_dFrz, frz_lst, frz_dic, frz_ins, ev_dVarF, ev_retV, ev_asgS, ev_gmName, ev_gmTup, ev_gmNil, ev_gmCons, ev_forS, ev_liftI, ev_bIE, ev_bIA, ev_iSeq, ev_seq_lst, ev_seq_tup, ev_seq_str, ev_items_lst, ev_items_tup, ev_iRange1, ev_iRange2, ev_dSlice, ev_optN, ev_optS, ev_altE, ev_isiD, ev_isiT, kd_non, kd_bl, kd_int, kd_str, kd_tup, kd_lst, kd_dic, kd_ins, tab_bb, tab_bo, tab_ob, tab_oo, cd0, cd1, cd2, cd3, cd4, cd5, cd6, tru_non, tru_bl, tru_int, tru_str, tru_lst, tru_tup, len_str, len_lst, len_tup, o_sub, o_lt, o_le, o_gt, o_ge, o_mod, o_div, o_neg, o_addI, o_addS, o_addL, o_addT, o_isB, o_notB, o_eqI, o_neI, o_eqS, o_neS, o_eqB, o_neB, o_eqNI, o_eqIN, o_inS, o_ixL, o_ixT, o_ixS, atD_0, atD_1, atD_2, atD_3, atD_4, listA_lst, listA_tup, fInt_int, ev_slIns, ev_dFldS, ev_fldS, ev_slInsPut, putFD_nil, putFD_cons, ev_oFld, ev_slLst, ev_slPut, ev_dIxS, ev_lenS, ev_appS, ev_stoS, ev_dMethS, ev_dMethSO, ev_onS, ev_callS0, ev_onC, ev_isC, ev_callM, ev_callMO, ev_dMeth, ev_dMethO, ev_dProp, ev_dMakeA, pxD_nil, pxD_cons, ev_xNil, ev_xCons, ev_xOwn, putXs_nil, putXs_sh, putXs_ow, ev_parX, ev_iEnumAD, o_mulI, o_mulL, ev_needS, ev_dCallS, ev_callS, ev_aSlot, ev_dCallB, ev_callB, lent_nil, lent_sh, lent_sl, scal_bl, ev_starM, ev_take0, ev_take1, ev_drop0, ev_drop1, ev_dCallStar, ev_dMethStar, ev_dMakeN, ev_isk_int, ev_isk_str, ev_keyT, ev_slDic, ev_slPutD, ev_dInS, ev_dPutS, ev_dicOf, ev_dGet2P, ev_aStarVals, ev_clrS, ev_clrT, List.getElem?_cons_zero, List.getElem?_cons_succ, List.getElem?_nil, List.set_cons_zero, List.set_cons_succ, List.set_nil, List.map_cons, List.map_nil, List.cons_append, List.nil_append, List.length_cons, List.length_nil, Option.map_some, Option.map_none, reduceIte, if_true, ite_true, ite_false, if_false, Bool.and_true, Bool.true_and, Bool.and_false, Bool.false_and, Bool.or_true, Bool.true_or, Bool.or_false, Bool.false_or, Bool.not_true, Bool.not_false, Bool.true_eq_false, Bool.false_eq_true, decide_true, decide_false, Nat.reduceAdd, Nat.reduceSub, Nat.reduceMul, Nat.reduceLeDiff, Nat.reduceLT, Nat.reduceEqDiff, Nat.reduceBEq, Int.reduceLT, Int.reduceLE, Int.reduceEq, Int.reduceAdd, Int.reduceSub, Int.reduceBEq, List.reduceReplicate, List.contains_cons, List.contains_nil, List.lookup_cons, Option.isSome_some, Option.isSome_none, beq_self_eq_true, bne_self_eq_false, List.all_cons, List.all_nil, List.any_cons, List.any_nil, Nat.zero_add, List.append_nil, and_true, true_and, and_self, decide_eq_true_eq, Nat.reduceDiv, Int.toNat_natCast, List.getD_cons_zero, List.getD_cons_succ, Int.cast_ofNat_Int, Int.natCast_zero, Nat.le_refl, Nat.reduceBNe, Int.reduceBNe, Bool.and_self, Bool.or_self, not_true_eq_false, not_false_eq_true, ne_eq, reduceCtorEq, *])
/-! ### unlike values; what is a step -/
/-! is_step -/
end DS
namespace DS
local macro_rules | `(tactic| decreasing_trivial) => `(tactic| simp only [ev_runD, ev_fin_nx, ev_fin_rt, ev_fin_ex, ev_outs_nil, ev_outs_pin, ev_outs_non, ev_outs_bl, ev_outs_int, ev_outs_str, ev_outs_tup, ev_outs_lst, ev_outs_dic, ev_outs_ins, ev_startD, ev_seqS, ev_nxS, ev_bkS, ev_ctS, ev_retN, ev_bS, ev_dropS, ev_retS, ev_retO, ev_ifS, ev_setS, ev_setO, ev_toS, ev_putS, ev_freeSl, np_none, np_own, np_pin, np_non, np_bl, np_int, np_str, np_tup, np_lst, np_dic, np_ins, sh_non, sh_bl, sh_int, sh_str, sh_tup, sh_lst, sh_dic, sh_ins, sh_own, sh_pin, ev_lift, ev_liftN, ev_bE, ev_bB, ev_bA, ev_cB, ev_cBB, ev_retB, ev_dVar, ev_dC, ev_dOp, ev_dUn, ev_toB, ev_truB, ev_notB, ev_andB, ev_orB, ev_andV, ev_orV, ev_notV, ev_ifV, ev_chainV, ev_isNonV, ev_notNonV, ev_aNil, ev_aCons, ev_aStar, ev_shs_nil, ev_shs, shs_app, ev_bL, ev_dTup, ev_dLst, ev_dCall, ev_dCallN, ev_dCallNO, ev_dFrz, frz_lst, frz_dic, frz_ins, ev_dVarF, ev_retV, ev_asgS, ev_gmName, ev_gmTup, ev_gmNil, ev_gmCons, ev_forS, ev_liftI, ev_bIE, ev_bIA, ev_iSeq, ev_seq_lst, ev_seq_tup, ev_seq_str, ev_items_lst, ev_items_tup, ev_iRange1, ev_iRange2, ev_dSlice, ev_optN, ev_optS, ev_altE, ev_isiD, ev_isiT, kd_non, kd_bl, kd_int, kd_str, kd_tup, kd_lst, kd_dic, kd_ins, tab_bb, tab_bo, tab_ob, tab_oo, cd0, cd1, cd2, cd3, cd4, cd5, cd6, tru_non, tru_bl, tru_int, tru_str, tru_lst, tru_tup, len_str, len_lst, len_tup, o_sub, o_lt, o_le, o_gt, o_ge, o_mod, o_div, o_neg, o_addI, o_addS, o_addL, o_addT, o_isB, o_notB, o_eqI, o_neI, o_eqS, o_neS, o_eqB, o_neB, o_eqNI, o_eqIN, o_inS, o_ixL, o_ixT, o_ixS, atD_0, atD_1, atD_2, atD_3, atD_4, listA_lst, listA_tup, fInt_int, ev_slIns, ev_dFldS, ev_fldS, ev_slInsPut, putFD_nil, putFD_cons, ev_oFld, ev_slLst, ev_slPut, ev_dIxS, ev_lenS, ev_appS, ev_stoS, ev_dMethS, ev_dMethSO, ev_onS, ev_callS0, ev_onC, ev_isC, ev_callM, ev_callMO, ev_dMeth, ev_dMethO, ev_dProp, ev_dMakeA, pxD_nil, pxD_cons, ev_xNil, ev_xCons, ev_xOwn, putXs_nil, putXs_sh, putXs_ow, ev_parX, ev_iEnumAD, o_mulI, o_mulL, ev_needS, ev_dCallS, ev_callS, ev_aSlot, ev_dCallB, ev_callB, lent_nil, lent_sh, lent_sl, scal_bl, ev_starM, ev_take0, ev_take1, ev_drop0, ev_drop1, ev_dCallStar, ev_dMethStar, ev_dMakeN, ev_isk_int, ev_isk_str, ev_keyT, ev_slDic, ev_slPutD, ev_dInS, ev_dPutS, ev_dicOf, ev_dGet2P, ev_aStarVals, ev_clrS, ev_clrT, List.getElem?_cons_zero, List.getElem?_cons_succ, List.getElem?_nil, List.set_cons_zero, List.set_cons_succ, List.set_nil, List.map_cons, List.map_nil, List.cons_append, List.nil_append, List.length_cons, List.length_nil, Option.map_some, Option.map_none, reduceIte, if_true, ite_true, ite_false, if_false, Bool.and_true, Bool.true_and, Bool.and_false, Bool.false_and, Bool.or_true, Bool.true_or, Bool.or_false, Bool.false_or, Bool.not_true, Bool.not_false, Bool.true_eq_false, Bool.false_eq_true, decide_true, decide_false, Nat.reduceAdd, Nat.reduceSub, Nat.reduceMul, Nat.reduceLeDiff, Nat.reduceLT, Nat.reduceEqDiff, Nat.reduceBEq, Int.reduceLT, Int.reduceLE, Int.reduceEq, Int.reduceAdd, Int.reduceSub, Int.reduceBEq, List.reduceReplicate, List.contains_cons, List.contains_nil, List.lookup_cons, Option.isSome_some, Option.isSome_none, beq_self_eq_true, bne_self_eq_false, List.all_cons, List.all_nil, List.any_cons, List.any_nil, Nat.zero_add, List.append_nil, and_true, true_and, and_self, decide_eq_true_eq, Nat.reduceDiv, Int.toNat_natCast, List.getD_cons_zero, List.getD_cons_succ, Int.cast_ofNat_Int, Int.natCast_zero, Nat.le_refl, Nat.reduceBNe, Int.reduceBNe, Bool.and_self, Bool.or_self, not_true_eq_false, not_false_eq_true, ne_eq, reduceCtorEq, *])
/-! ### the text of a wheel; wheels that are equal -/
def sm_Wheel_text : SM := (seqS (setS 1 (ifV (toB (isNonV (dUn (oFld [0] 2) (dVar 0)))) (dC (.str [45])) (dCall fStr (aCons (dUn (oFld [0] 2) (dVar 0)) aNil))))
  (retS (dJoin (dC (.str [32])) (dLst (aCons (dC (.str [119, 104, 101, 101, 108])) (aStar (dUn (oFld [0] 0) (dVar 0)) (aCons (dC (.str [115, 104, 105, 118, 101, 114])) (aStar (dLc (iSeq (dUn (oFld [0] 1) (dVar 0))) (gmName 2) (retB true) (dCall fStr (aCons (dVar 2) aNil)) [2]) (aCons (dC (.str [119, 111, 114, 110])) (aCons (dVar 1) aNil))))))))))
def m_Wheel_text : List D → Option (R × List D) := runD 3 sm_Wheel_text
def sm_Wheel___eq__ : SM := (retS (andV (dUn (isiD (tabO [0])) (dVar 1)) (dOp oEq (dProp 0 m_Wheel_text (dVar 0)) (dProp 0 m_Wheel_text (dVar 1)))))
def m_Wheel___eq__ : List D → Option (R × List D) := runD 2 sm_Wheel___eq__
/-! joins of words of the same lengths -/
theorem fold_inj {sep : List Nat} : ∀ {ys zs : List (List Nat)} {a b : List Nat}, ys.map List.length = zs.map List.length → a.length = b.length → ys.foldl (fun acc p => acc ++ sep ++ p) a = zs.foldl (fun acc p => acc ++ sep ++ p) b → a = b ∧ ys = zs
  | [], [], a, b, _, _, h => ⟨h, rfl⟩
  | [], _ :: _, a, b, h, _, _ => by simp at h
  | _ :: _, [], a, b, h, _, _ => by simp at h
  | y :: ys, z :: zs, a, b, hl, h0, h => by
    rw [List.map_cons, List.map_cons, List.cons.injEq] at hl
    rw [List.foldl_cons, List.foldl_cons] at h
    obtain ⟨h1, h2⟩ := fold_inj hl.2 (by simp [h0, hl.1]) h
    have h3 := List.append_inj h1 (by simp [h0])
    have h4 := List.append_inj h3.1 h0
    exact ⟨h4.1, by rw [h3.2, h2]⟩
theorem join_inj {sep : List Nat} {ys zs : List (List Nat)} (hl : ys.map List.length = zs.map List.length) (h : joinL sep ys = joinL sep zs) : ys = zs := by
  cases ys with
  | nil =>
    cases zs with
    | nil => rfl
    | cons z zs => simp at hl
  | cons y ys =>
    cases zs with
    | nil => simp at hl
    | cons z zs =>
      rw [List.map_cons, List.map_cons, List.cons.injEq] at hl
      obtain ⟨h1, h2⟩ := fold_inj (sep := sep) hl.2 hl.1 h
      rw [h1, h2]
theorem strB_app {x y : List Nat} (hx : strB x = true) (hy : strB y = true) (hl : x.length + y.length ≤ 16777216) : strB (x ++ y) = true := by
  unfold strB at hx hy ⊢
  rw [Bool.and_eq_true] at hx hy
  rw [List.all_append, hx.1, hy.1]
  exact decide_eq_true (by rw [List.length_append]; exact hl)
theorem strB_fold {sep : List Nat} (hs : strB sep = true) (l1 : sep.length ≤ 100) : ∀ {ys : List (List Nat)} {a : List Nat}, strB a = true → (∀ y ∈ ys, strB y = true ∧ y.length ≤ 100) → a.length + 200 * ys.length ≤ 100000 → strB (ys.foldl (fun acc p => acc ++ sep ++ p) a) = true
  | [], a, ha, _, _ => ha
  | y :: ys, a, ha, hy, hl => by
    rw [List.foldl_cons]
    obtain ⟨h1, h2⟩ := hy y (by simp)
    rw [List.length_cons] at hl
    exact strB_fold hs l1 (strB_app (strB_app ha hs (by omega)) h1 (by rw [List.length_append]; omega)) (fun z hz => hy z (by simp [hz])) (by rw [List.length_append, List.length_append]; omega)
theorem sum_le100 : ∀ {ys : List (List Nat)}, (∀ y ∈ ys, y.length ≤ 100) → (ys.map List.length).sum ≤ 100 * ys.length
  | [], _ => by simp
  | y :: ys, h => by
    have h1 := h y (by simp)
    have h2 := sum_le100 (ys := ys) fun z hz => h z (by simp [hz])
    simp only [List.map_cons, List.sum_cons, List.length_cons]
    omega
theorem strsOf_strL : ∀ l : List (List Nat), strsOf (strL l) = some l
  | [] => rfl
  | t :: l => by
    have ih := strsOf_strL l
    unfold strL at ih ⊢
    rw [List.map_cons, strsOf, ih]
    rfl
theorem joinD_ok {sep : List Nat} {ys : List (List Nat)} (hs : strB sep = true) (l1 : sep.length ≤ 100) (hn : ys.length ≤ 100) (hy : ∀ y ∈ ys, strB y = true ∧ y.length ≤ 100) : joinD sep (.lst (strL ys)) = some (.str (joinL sep ys)) := by
  have h1 : (ys.map List.length).sum + ys.length * sep.length ≤ 16777216 := by
    have := sum_le100 (ys := ys) fun y h => (hy y h).2
    have : ys.length * sep.length ≤ 100 * 100 := Nat.mul_le_mul hn l1
    omega
  have h2 : strB (joinL sep ys) = true := by
    cases ys with
    | nil => rfl
    | cons y ys =>
      obtain ⟨a, b⟩ := hy y (by simp)
      rw [List.length_cons] at hn
      exact strB_fold hs l1 (ys := ys) (a := y) a (fun z hz => hy z (by simp [hz])) (by omega)
  show (match itemsOf (.lst (strL ys)) with
    | some xs => (match strsOf xs with
      | some ys => if ((ys.map List.length).sum + ys.length * sep.length ≤ 16777216 && strB (joinL sep ys)) = true then some (D.str (joinL sep ys)) else none
      | none => none)
    | none => none) = _
  simp only [itemsOf, strsOf_strL, h2, Bool.and_true, decide_eq_true h1, if_true]
/-! the words of a wheel -/
theorem dig_all : ((List.range 10).all fun s => decide (numD ((s : Nat) : Int) = [48 + s])) = true := by decide +kernel
theorem dig_at {s : Nat} (h : s ≤ 9) : numD (s : Int) = [48 + s] := of_decide_eq_true (List.all_eq_true.mp dig_all s (List.mem_range.mpr (by omega)))
def wornT : Option Nat → List Nat
  | none => [45]
  | some i => numD (i : Int)
def wordsM (W : WM) : List (List Nat) := [119, 104, 101, 101, 108] :: (W.tr ++ ([115, 104, 105, 118, 101, 114] :: (W.sh.map (fun s : Nat => numD (s : Int)) ++ [[119, 111, 114, 110], wornT W.wo])))
def textM (W : WM) : List Nat := joinL [32] (wordsM W)
theorem worn_len {W : WM} {sz many : Nat} (h : W.Ok sz many) : ∃ c, wornT W.wo = [c] := by
  have m3 := h.m3
  cases q : W.wo with
  | none => exact ⟨45, rfl⟩
  | some i =>
    have := h.wov i q
    exact ⟨48 + i, dig_at (by omega)⟩
theorem words_ok {W : WM} {sz many : Nat} (h : W.Ok sz many) : (wordsM W).length ≤ 100 ∧ ∀ y ∈ wordsM W, strB y = true ∧ y.length ≤ 100 := by
  have m3 := h.m3
  have s12 := h.s12
  obtain ⟨c, hc⟩ := worn_len h
  have dg : ∀ s ≤ 9, strB (numD ((s : Nat) : Int)) = true := fun s hs => (num_at (n := s) (by omega)).1
  refine ⟨?_, fun y hy => ?_⟩
  · unfold wordsM
    simp only [List.length_cons, List.length_append, List.length_map, h.len, h.shl, List.length_nil]
    omega
  · unfold wordsM at hy
    simp only [List.mem_cons, List.mem_append, List.mem_map, List.not_mem_nil, or_false] at hy
    rcases hy with rfl | hy | rfl | ⟨s, hs, rfl⟩ | rfl | rfl
    · exact ⟨rfl, by decide⟩
    · exact ⟨marks_strB (h.mks y hy) (by rw [h.sl y hy]; omega), by rw [h.sl y hy]; omega⟩
    · exact ⟨rfl, by decide⟩
    · have := h.shv s hs
      exact ⟨dg s (by omega), by rw [dig_at (by omega)]; simp⟩
    · exact ⟨rfl, by decide⟩
    · refine ⟨?_, by rw [hc]; simp⟩
      cases q : W.wo with
      | none => rfl
      | some i =>
        have := h.wov i q
        exact dg i (by omega)
theorem join_words {W : WM} {sz many : Nat} (h : W.Ok sz many) : joinD [32] (.lst (strL (wordsM W))) = some (.str (textM W)) := by
  obtain ⟨h1, h2⟩ := words_ok h
  exact joinD_ok rfl (by decide) h1 h2
theorem text_inj {W V : WM} {sz many : Nat} (h : W.Ok sz many) (h' : V.Ok sz many) (e : textM W = textM V) : W = V := by
  have m3 := h.m3
  obtain ⟨c, hc⟩ := worn_len h
  obtain ⟨c', hc'⟩ := worn_len h'
  have trl : ∀ {W : WM}, W.Ok sz many → W.tr.map List.length = List.replicate many sz := fun {W} h => by
    rw [← h.len]
    exact List.eq_replicate_iff.mpr ⟨by simp, fun b hb => by
      obtain ⟨t, ht, rfl⟩ := List.mem_map.mp hb
      exact h.sl t ht⟩
  have shl : ∀ {W : WM}, W.Ok sz many → (W.sh.map fun s : Nat => numD (s : Int)).map List.length = List.replicate many 1 := fun {W} h => by
    rw [← h.shl]
    exact List.eq_replicate_iff.mpr ⟨by simp, fun b hb => by
      obtain ⟨t, ht, rfl⟩ := List.mem_map.mp hb
      obtain ⟨s, hs, rfl⟩ := List.mem_map.mp ht
      have := h.shv s hs
      rw [dig_at (by omega)]; rfl⟩
  have lens : (wordsM W).map List.length = (wordsM V).map List.length := by
    unfold wordsM
    simp only [List.map_cons, List.map_append, List.map_nil, trl h, trl h', hc, hc']
    rw [shl h, shl h']
    rfl
  have w := join_inj lens e
  unfold wordsM at w
  rw [List.cons.injEq] at w
  have w1 := List.append_inj w.2 (by rw [h.len, h'.len])
  have w2 := (List.cons.inj w1.2).2
  have w3 := List.append_inj w2 (by rw [List.length_map, List.length_map, h.shl, h'.shl])
  have w4 : wornT W.wo = wornT V.wo := by simpa using w3.2
  have e2 : W.sh = V.sh := by
    refine List.ext_getElem (by rw [h.shl, h'.shl]) fun i h1 h2 => ?_
    have q := congrArg (fun l => l[i]?) w3.1
    simp only [List.getElem?_map, List.getElem?_eq_getElem h1, List.getElem?_eq_getElem h2, Option.map_some, Option.some.injEq] at q
    have a := h.shv _ (List.getElem_mem h1)
    have b := h'.shv _ (List.getElem_mem h2)
    rw [dig_at (by omega), dig_at (by omega)] at q
    simpa using q
  have e3 : W.wo = V.wo := by
    cases q : W.wo with
    | none =>
      cases q' : V.wo with
      | none => rfl
      | some j =>
        have := h'.wov j q'
        rw [q, q'] at w4
        have w4 : [45] = numD (j : Int) := w4
        rw [dig_at (by omega)] at w4
        simp at w4
        omega
    | some i =>
      have hi := h.wov i q
      cases q' : V.wo with
      | none =>
        rw [q, q'] at w4
        have w4 : numD (i : Int) = [45] := w4
        rw [dig_at (by omega)] at w4
        simp at w4
        omega
      | some j =>
        have hj := h'.wov j q'
        rw [q, q'] at w4
        have w4 : numD (i : Int) = numD (j : Int) := w4
        rw [dig_at (by omega), dig_at (by omega)] at w4
        have : i = j := by simpa using w4
        rw [this]
  cases W; cases V
  simp only at w1 e2 e3
  rw [w1.1, e2, e3]
theorem shs_star (xs : List D) (r : List Ag) : shs (xs.map Ag.sh ++ r) = (shs r).map fun z => xs ++ z := by
  induction xs with
  | nil =>
    show shs r = _
    cases shs r <;> rfl
  | cons x xs ih =>
    rw [List.map_cons, List.cons_append]
    show (shs (xs.map Ag.sh ++ r)).map (x :: ·) = _
    rw [ih]
    cases shs r <;> rfl
def strI : D → D
  | .int n => .str (numD n)
  | _ => .non
theorem text_ok {W : WM} {sz many : Nat} (h : W.Ok sz many) : m_Wheel_text [wheelD W sz] = some (.ok (.str (textM W)), []) := by
  have m3 := h.m3
  have jw := join_words h
  have wn : ∀ i, W.wo = some i → fStr [.int (i : Int)] = some (.str (numD i)) := fun i q => str_num (by have := h.wov i q; omega)
  have c : ∀ o1 : Option D, dLc (iSeq (dUn (oFld [0] 1) (dVar 0))) (gmName 2) (retB true) (dCall fStr (aCons (dVar 2) aNil)) [2] [some (wheelD W sz), o1, none] = some (.ok (.lst (strL (W.sh.map fun s : Nat => numD (s : Int)))), [some (wheelD W sz), o1, none]) := fun o1 => by
    have q := dLc_map (im := iSeq (dUn (oFld [0] 1) (dVar 0))) (v := 2) (em := dCall fStr (aCons (dVar 2) aNil)) (env := [some (wheelD W sz), o1, none]) (xs := intL W.sh) strI (by
      unfold wheelD
      generalize cellsD W sz = C
      generalize intL W.sh = I
      decreasing_trivial) (by unfold intL; rw [List.length_map, h.shl]; omega) (by simp) rfl (by
      intro x hx
      unfold intL at hx
      obtain ⟨s, hs, rfl⟩ := List.mem_map.mp hx
      have sn := str_num (n := s) (by have := h.shv s hs; omega)
      unfold wheelD strI
      generalize cellsD W sz = C
      clear hx
      decreasing_trivial)
    have e : (intL W.sh).map strI = strL (W.sh.map fun s : Nat => numD (s : Int)) := by
      unfold intL strL
      rw [List.map_map, List.map_map]
      rfl
    rw [e] at q
    exact q
  have ws : strL (wordsM W) = .str [119, 104, 101, 101, 108] :: (strL W.tr ++ (.str [115, 104, 105, 118, 101, 114] :: (strL (W.sh.map fun s : Nat => numD (s : Int)) ++ [.str [119, 111, 114, 110], .str (wornT W.wo)]))) := by
    unfold wordsM strL
    simp only [List.map_cons, List.map_append, List.map_nil]
  have wl : (strL (wordsM W)).length ≤ 16777216 := by
    have := (words_ok h).1
    rw [strL_len]; omega
  rw [ws] at jw wl
  have os := opt_sh W.wo
  unfold m_Wheel_text sm_Wheel_text
  unfold wheelD at c ⊢
  clear ws h
  generalize cellsD W sz = C at c ⊢
  generalize strL (W.sh.map fun s : Nat => numD (s : Int)) = SH at c jw wl
  generalize strL W.tr = TR at c jw wl ⊢
  generalize intL W.sh = SI at c ⊢
  generalize dLc (iSeq (dUn (oFld [0] 1) (dVar 0))) (gmName 2) (retB true) (dCall fStr (aCons (dVar 2) aNil)) [2] = G at c ⊢
  generalize textM W = TX at jw ⊢
  cases q : W.wo with
  | none =>
    rw [q] at c jw wl os
    have c0 := c (some (.str [45]))
    have jw : joinD [32] (.lst (.str [119, 104, 101, 101, 108] :: (TR ++ (.str [115, 104, 105, 118, 101, 114] :: (SH ++ [.str [119, 111, 114, 110], .str [45]]))))) = some (.str TX) := jw
    have wl : (D.str [119, 104, 101, 101, 108] :: (TR ++ (.str [115, 104, 105, 118, 101, 114] :: (SH ++ [.str [119, 111, 114, 110], .str [45]])))).length ≤ 16777216 := wl
    clear c wn q
    generalize hLL : D.str [119, 104, 101, 101, 108] :: (TR ++ (.str [115, 104, 105, 118, 101, 114] :: (SH ++ [.str [119, 111, 114, 110], .str [45]]))) = LL at jw wl
    unfold optN at c0 ⊢
    simp only [ev_runD, ev_fin_nx, ev_fin_rt, ev_fin_ex, ev_outs_nil, ev_outs_pin, ev_outs_non, ev_outs_bl, ev_outs_int, ev_outs_str, ev_outs_tup, ev_outs_lst, ev_outs_dic, ev_outs_ins, ev_startD, ev_seqS, ev_nxS, ev_bkS, ev_ctS, ev_retN, ev_bS, ev_dropS, ev_retS, ev_retO, ev_ifS, ev_setS, ev_setO, ev_toS, ev_putS, ev_freeSl, np_none, np_own, np_pin, np_non, np_bl, np_int, np_str, np_tup, np_lst, np_dic, np_ins, sh_non, sh_bl, sh_int, sh_str, sh_tup, sh_lst, sh_dic, sh_ins, sh_own, sh_pin, ev_lift, ev_liftN, ev_bE, ev_bB, ev_bA, ev_cB, ev_cBB, ev_retB, ev_dVar, ev_dC, ev_dOp, ev_dUn, ev_toB, ev_truB, ev_notB, ev_andB, ev_orB, ev_andV, ev_orV, ev_notV, ev_ifV, ev_chainV, ev_isNonV, ev_notNonV, ev_aNil, ev_aCons, ev_aStar, ev_shs_nil, ev_shs, shs_app, ev_bL, ev_dTup, ev_dLst, ev_dCall, ev_dCallN, ev_dCallNO, ev_dFrz, frz_lst, frz_dic, frz_ins, ev_dVarF, ev_retV, ev_asgS, ev_gmName, ev_gmTup, ev_gmNil, ev_gmCons, ev_forS, ev_liftI, ev_bIE, ev_bIA, ev_iSeq, ev_seq_lst, ev_seq_tup, ev_seq_str, ev_items_lst, ev_items_tup, ev_iRange1, ev_iRange2, ev_dSlice, ev_optN, ev_optS, ev_altE, ev_isiD, ev_isiT, kd_non, kd_bl, kd_int, kd_str, kd_tup, kd_lst, kd_dic, kd_ins, tab_bb, tab_bo, tab_ob, tab_oo, cd0, cd1, cd2, cd3, cd4, cd5, cd6, tru_non, tru_bl, tru_int, tru_str, tru_lst, tru_tup, len_str, len_lst, len_tup, o_sub, o_lt, o_le, o_gt, o_ge, o_mod, o_div, o_neg, o_addI, o_addS, o_addL, o_addT, o_isB, o_notB, o_eqI, o_neI, o_eqS, o_neS, o_eqB, o_neB, o_eqNI, o_eqIN, o_inS, o_ixL, o_ixT, o_ixS, atD_0, atD_1, atD_2, atD_3, atD_4, listA_lst, listA_tup, fInt_int, ev_slIns, ev_dFldS, ev_fldS, ev_slInsPut, putFD_nil, putFD_cons, ev_oFld, ev_slLst, ev_slPut, ev_dIxS, ev_lenS, ev_appS, ev_stoS, ev_dMethS, ev_dMethSO, ev_onS, ev_callS0, ev_onC, ev_isC, ev_callM, ev_callMO, ev_dMeth, ev_dMethO, ev_dProp, ev_dMakeA, pxD_nil, pxD_cons, ev_xNil, ev_xCons, ev_xOwn, putXs_nil, putXs_sh, putXs_ow, ev_parX, ev_iEnumAD, o_mulI, o_mulL, ev_needS, ev_dCallS, ev_callS, ev_aSlot, ev_dCallB, ev_callB, lent_nil, lent_sh, lent_sl, scal_bl, ev_starM, ev_take0, ev_take1, ev_drop0, ev_drop1, ev_dCallStar, ev_dMethStar, ev_dMakeN, ev_isk_int, ev_isk_str, ev_keyT, ev_slDic, ev_slPutD, ev_dInS, ev_dPutS, ev_dicOf, ev_dGet2P, ev_aStarVals, ev_clrS, ev_clrT, List.getElem?_cons_zero, List.getElem?_cons_succ, List.getElem?_nil, List.set_cons_zero, List.set_cons_succ, List.set_nil, List.map_cons, List.map_nil, List.cons_append, List.nil_append, List.length_cons, List.length_nil, Option.map_some, Option.map_none, reduceIte, if_true, ite_true, ite_false, if_false, Bool.and_true, Bool.true_and, Bool.and_false, Bool.false_and, Bool.or_true, Bool.true_or, Bool.or_false, Bool.false_or, Bool.not_true, Bool.not_false, Bool.true_eq_false, Bool.false_eq_true, decide_true, decide_false, Nat.reduceAdd, Nat.reduceSub, Nat.reduceMul, Nat.reduceLeDiff, Nat.reduceLT, Nat.reduceEqDiff, Nat.reduceBEq, Int.reduceLT, Int.reduceLE, Int.reduceEq, Int.reduceAdd, Int.reduceSub, Int.reduceBEq, List.reduceReplicate, List.contains_cons, List.contains_nil, List.lookup_cons, Option.isSome_some, Option.isSome_none, beq_self_eq_true, bne_self_eq_false, List.all_cons, List.all_nil, List.any_cons, List.any_nil, Nat.zero_add, List.append_nil, and_true, true_and, and_self, decide_eq_true_eq, Nat.reduceDiv, Int.toNat_natCast, List.getD_cons_zero, List.getD_cons_succ, Int.cast_ofNat_Int, Int.natCast_zero, Nat.le_refl, Nat.reduceBNe, Int.reduceBNe, Bool.and_self, Bool.or_self, not_true_eq_false, not_false_eq_true, ne_eq, reduceCtorEq, shs_star, dJoin, *]
  | some i =>
    have wi := wn i q
    rw [q] at c jw wl os
    have c0 := c (some (.str (numD i)))
    have jw : joinD [32] (.lst (.str [119, 104, 101, 101, 108] :: (TR ++ (.str [115, 104, 105, 118, 101, 114] :: (SH ++ [.str [119, 111, 114, 110], .str (numD i)]))))) = some (.str TX) := jw
    have wl : (D.str [119, 104, 101, 101, 108] :: (TR ++ (.str [115, 104, 105, 118, 101, 114] :: (SH ++ [.str [119, 111, 114, 110], .str (numD i)])))).length ≤ 16777216 := wl
    clear c wn q
    generalize hLL : D.str [119, 104, 101, 101, 108] :: (TR ++ (.str [115, 104, 105, 118, 101, 114] :: (SH ++ [.str [119, 111, 114, 110], .str (numD i)]))) = LL at jw wl
    unfold optN at c0 ⊢
    simp only [ev_runD, ev_fin_nx, ev_fin_rt, ev_fin_ex, ev_outs_nil, ev_outs_pin, ev_outs_non, ev_outs_bl, ev_outs_int, ev_outs_str, ev_outs_tup, ev_outs_lst, ev_outs_dic, ev_outs_ins, ev_startD, ev_seqS, ev_nxS, ev_bkS, ev_ctS, ev_retN, ev_bS, ev_dropS, ev_retS, ev_retO, ev_ifS, ev_setS, ev_setO, ev_toS, ev_putS, ev_freeSl, np_none, np_own, np_pin, np_non, np_bl, np_int, np_str, np_tup, np_lst, np_dic, np_ins, sh_non, sh_bl, sh_int, sh_str, sh_tup, sh_lst, sh_dic, sh_ins, sh_own, sh_pin, ev_lift, ev_liftN, ev_bE, ev_bB, ev_bA, ev_cB, ev_cBB, ev_retB, ev_dVar, ev_dC, ev_dOp, ev_dUn, ev_toB, ev_truB, ev_notB, ev_andB, ev_orB, ev_andV, ev_orV, ev_notV, ev_ifV, ev_chainV, ev_isNonV, ev_notNonV, ev_aNil, ev_aCons, ev_aStar, ev_shs_nil, ev_shs, shs_app, ev_bL, ev_dTup, ev_dLst, ev_dCall, ev_dCallN, ev_dCallNO, ev_dFrz, frz_lst, frz_dic, frz_ins, ev_dVarF, ev_retV, ev_asgS, ev_gmName, ev_gmTup, ev_gmNil, ev_gmCons, ev_forS, ev_liftI, ev_bIE, ev_bIA, ev_iSeq, ev_seq_lst, ev_seq_tup, ev_seq_str, ev_items_lst, ev_items_tup, ev_iRange1, ev_iRange2, ev_dSlice, ev_optN, ev_optS, ev_altE, ev_isiD, ev_isiT, kd_non, kd_bl, kd_int, kd_str, kd_tup, kd_lst, kd_dic, kd_ins, tab_bb, tab_bo, tab_ob, tab_oo, cd0, cd1, cd2, cd3, cd4, cd5, cd6, tru_non, tru_bl, tru_int, tru_str, tru_lst, tru_tup, len_str, len_lst, len_tup, o_sub, o_lt, o_le, o_gt, o_ge, o_mod, o_div, o_neg, o_addI, o_addS, o_addL, o_addT, o_isB, o_notB, o_eqI, o_neI, o_eqS, o_neS, o_eqB, o_neB, o_eqNI, o_eqIN, o_inS, o_ixL, o_ixT, o_ixS, atD_0, atD_1, atD_2, atD_3, atD_4, listA_lst, listA_tup, fInt_int, ev_slIns, ev_dFldS, ev_fldS, ev_slInsPut, putFD_nil, putFD_cons, ev_oFld, ev_slLst, ev_slPut, ev_dIxS, ev_lenS, ev_appS, ev_stoS, ev_dMethS, ev_dMethSO, ev_onS, ev_callS0, ev_onC, ev_isC, ev_callM, ev_callMO, ev_dMeth, ev_dMethO, ev_dProp, ev_dMakeA, pxD_nil, pxD_cons, ev_xNil, ev_xCons, ev_xOwn, putXs_nil, putXs_sh, putXs_ow, ev_parX, ev_iEnumAD, o_mulI, o_mulL, ev_needS, ev_dCallS, ev_callS, ev_aSlot, ev_dCallB, ev_callB, lent_nil, lent_sh, lent_sl, scal_bl, ev_starM, ev_take0, ev_take1, ev_drop0, ev_drop1, ev_dCallStar, ev_dMethStar, ev_dMakeN, ev_isk_int, ev_isk_str, ev_keyT, ev_slDic, ev_slPutD, ev_dInS, ev_dPutS, ev_dicOf, ev_dGet2P, ev_aStarVals, ev_clrS, ev_clrT, List.getElem?_cons_zero, List.getElem?_cons_succ, List.getElem?_nil, List.set_cons_zero, List.set_cons_succ, List.set_nil, List.map_cons, List.map_nil, List.cons_append, List.nil_append, List.length_cons, List.length_nil, Option.map_some, Option.map_none, reduceIte, if_true, ite_true, ite_false, if_false, Bool.and_true, Bool.true_and, Bool.and_false, Bool.false_and, Bool.or_true, Bool.true_or, Bool.or_false, Bool.false_or, Bool.not_true, Bool.not_false, Bool.true_eq_false, Bool.false_eq_true, decide_true, decide_false, Nat.reduceAdd, Nat.reduceSub, Nat.reduceMul, Nat.reduceLeDiff, Nat.reduceLT, Nat.reduceEqDiff, Nat.reduceBEq, Int.reduceLT, Int.reduceLE, Int.reduceEq, Int.reduceAdd, Int.reduceSub, Int.reduceBEq, List.reduceReplicate, List.contains_cons, List.contains_nil, List.lookup_cons, Option.isSome_some, Option.isSome_none, beq_self_eq_true, bne_self_eq_false, List.all_cons, List.all_nil, List.any_cons, List.any_nil, Nat.zero_add, List.append_nil, and_true, true_and, and_self, decide_eq_true_eq, Nat.reduceDiv, Int.toNat_natCast, List.getD_cons_zero, List.getD_cons_succ, Int.cast_ofNat_Int, Int.natCast_zero, Nat.le_refl, Nat.reduceBNe, Int.reduceBNe, Bool.and_self, Bool.or_self, not_true_eq_false, not_false_eq_true, ne_eq, reduceCtorEq, shs_star, dJoin, *]
theorem wheel_eq {W V : WM} {sz many : Nat} (h : W.Ok sz many) (h' : V.Ok sz many) (dec : Decidable (W = V)) : m_Wheel___eq__ [wheelD W sz, wheelD V sz] = some (.ok (.bl (decide (W = V))), []) := by
  have t1 := text_ok h
  have t2 := text_ok h'
  have e : oEq (.str (textM W)) (.str (textM V)) = some (.bl (decide (W = V))) := by
    have : (textM W == textM V) = decide (W = V) := by
      rw [Bool.eq_iff_iff, beq_iff_eq, decide_eq_true_eq]
      exact ⟨text_inj h h', fun e => by rw [e]⟩
    simp [oEq, okD, deq, this]
  obtain ⟨l, w⟩ : ∃ l, wheelD W sz = .ins 0 l := ⟨_, rfl⟩
  obtain ⟨l', w'⟩ : ∃ l, wheelD V sz = .ins 0 l := ⟨_, rfl⟩
  rw [w] at t1 ⊢
  rw [w'] at t2 ⊢
  generalize textM W = A at t1 e
  generalize textM V = B at t2 e
  generalize decide (W = V) = b at e ⊢
  clear h h' w w'
  unfold m_Wheel___eq__ sm_Wheel___eq__
  cases b <;> decreasing_trivial
theorem wheel_eq_list (W : WM) (sz : Nat) (xs : List D) : m_Wheel___eq__ [wheelD W sz, .lst xs] = some (.ok (.bl false), []) := by
  obtain ⟨l, w⟩ : ∃ l, wheelD W sz = .ins 0 l := ⟨_, rfl⟩
  rw [w]
  unfold m_Wheel___eq__ sm_Wheel___eq__
  decreasing_trivial
end DS
namespace DS
local macro_rules | `(tactic| decreasing_trivial) => `(tactic| simp only [ev_runD, ev_fin_nx, ev_fin_rt, ev_fin_ex, ev_outs_nil, ev_outs_pin, ev_outs_non, ev_outs_bl, ev_outs_int, ev_outs_str, ev_outs_tup, ev_outs_lst, ev_outs_dic, ev_outs_ins, ev_startD, ev_seqS, ev_nxS, ev_bkS, ev_ctS, ev_retN, ev_bS, ev_dropS, ev_retS, ev_retO, ev_ifS, ev_setS, ev_setO, ev_toS, ev_putS, ev_freeSl, np_none, np_own, np_pin, np_non, np_bl, np_int, np_str, np_tup, np_lst, np_dic, np_ins, sh_non, sh_bl, sh_int, sh_str, sh_tup, sh_lst, sh_dic, sh_ins, sh_own, sh_pin, ev_lift, ev_liftN, ev_bE, ev_bB, ev_bA, ev_cB, ev_cBB, ev_retB, ev_dVar, ev_dC, ev_dOp, ev_dUn, ev_toB, ev_truB, ev_notB, ev_andB, ev_orB, ev_andV, ev_orV, ev_notV, ev_ifV, ev_chainV, ev_isNonV, ev_notNonV, ev_aNil, ev_aCons, ev_aStar, ev_shs_nil, ev_shs, shs_app, ev_bL, ev_dTup, ev_dLst, ev_dCall, ev_dCallN, ev_dCallNO, ev_dFrz, frz_lst, frz_dic, frz_ins, ev_dVarF, ev_retV, ev_asgS, ev_gmName, ev_gmTup, ev_gmNil, ev_gmCons, ev_forS, ev_liftI, ev_bIE, ev_bIA, ev_iSeq, ev_seq_lst, ev_seq_tup, ev_seq_str, ev_items_lst, ev_items_tup, ev_iRange1, ev_iRange2, ev_dSlice, ev_optN, ev_optS, ev_altE, ev_isiD, ev_isiT, kd_non, kd_bl, kd_int, kd_str, kd_tup, kd_lst, kd_dic, kd_ins, tab_bb, tab_bo, tab_ob, tab_oo, cd0, cd1, cd2, cd3, cd4, cd5, cd6, tru_non, tru_bl, tru_int, tru_str, tru_lst, tru_tup, len_str, len_lst, len_tup, o_sub, o_lt, o_le, o_gt, o_ge, o_mod, o_div, o_neg, o_addI, o_addS, o_addL, o_addT, o_isB, o_notB, o_eqI, o_neI, o_eqS, o_neS, o_eqB, o_neB, o_eqNI, o_eqIN, o_inS, o_ixL, o_ixT, o_ixS, atD_0, atD_1, atD_2, atD_3, atD_4, listA_lst, listA_tup, fInt_int, ev_slIns, ev_dFldS, ev_fldS, ev_slInsPut, putFD_nil, putFD_cons, ev_oFld, ev_slLst, ev_slPut, ev_dIxS, ev_lenS, ev_appS, ev_stoS, ev_dMethS, ev_dMethSO, ev_onS, ev_callS0, ev_onC, ev_isC, ev_callM, ev_callMO, ev_dMeth, ev_dMethO, ev_dProp, ev_dMakeA, pxD_nil, pxD_cons, ev_xNil, ev_xCons, ev_xOwn, putXs_nil, putXs_sh, putXs_ow, ev_parX, ev_iEnumAD, o_mulI, o_mulL, ev_needS, ev_dCallS, ev_callS, ev_aSlot, ev_dCallB, ev_callB, lent_nil, lent_sh, lent_sl, scal_bl, ev_starM, ev_take0, ev_take1, ev_drop0, ev_drop1, ev_dCallStar, ev_dMethStar, ev_dMakeN, ev_isk_int, ev_isk_str, ev_keyT, ev_slDic, ev_slPutD, ev_dInS, ev_dPutS, ev_dicOf, ev_dGet2P, ev_aStarVals, ev_clrS, ev_clrT, List.getElem?_cons_zero, List.getElem?_cons_succ, List.getElem?_nil, List.set_cons_zero, List.set_cons_succ, List.set_nil, List.map_cons, List.map_nil, List.cons_append, List.nil_append, List.length_cons, List.length_nil, Option.map_some, Option.map_none, reduceIte, if_true, ite_true, ite_false, if_false, Bool.and_true, Bool.true_and, Bool.and_false, Bool.false_and, Bool.or_true, Bool.true_or, Bool.or_false, Bool.false_or, Bool.not_true, Bool.not_false, Bool.true_eq_false, Bool.false_eq_true, decide_true, decide_false, Nat.reduceAdd, Nat.reduceSub, Nat.reduceMul, Nat.reduceLeDiff, Nat.reduceLT, Nat.reduceEqDiff, Nat.reduceBEq, Int.reduceLT, Int.reduceLE, Int.reduceEq, Int.reduceAdd, Int.reduceSub, Int.reduceBEq, List.reduceReplicate, List.contains_cons, List.contains_nil, List.lookup_cons, Option.isSome_some, Option.isSome_none, beq_self_eq_true, bne_self_eq_false, List.all_cons, List.all_nil, List.any_cons, List.any_nil, Nat.zero_add, List.append_nil, and_true, true_and, and_self, decide_eq_true_eq, Nat.reduceDiv, Int.toNat_natCast, List.getD_cons_zero, List.getD_cons_succ, Int.cast_ofNat_Int, Int.natCast_zero, Nat.le_refl, Nat.reduceBNe, Int.reduceBNe, Bool.and_self, Bool.or_self, not_true_eq_false, not_false_eq_true, ne_eq, reduceCtorEq, *])
def sm__law_wheel_p : SM := (seqS (setS 1 (dIxP 0 0))
  (seqS (ifS (toB (dOp oEq (dCall fLen (aCons (dVar 1) aNil)) (dC (.int 1)))) (retS (dFrz (dMakeA 0 2 2 (fun zs => pxD [0, 1] (zs ++ [])) m_Wheel___init__ (aCons (dOp oIx (dVar 1) (dC (.int 0))) aNil) (aCons (dListP 0 1) (aCons (dIxP 0 2) aNil))))) nxS)
  (seqS (ifS (toB (dOp oEq (dCall fLen (aCons (dVar 1) aNil)) (dC (.int 2)))) (retS (dFrz (dMakeA 0 2 2 (fun zs => pxD [1, 0] (zs ++ [])) m_Wheel___init__ (aCons (dOp oIx (dVar 1) (dC (.int 0))) (aCons (dOp oIx (dVar 1) (dC (.int 1))) aNil)) (aCons (dIxP 0 2) (aCons (dListP 0 1) aNil))))) nxS)
  (retS (dFrz (dMakeA 0 2 2 (fun zs => pxD [0, 1] (zs ++ [])) m_Wheel___init__ (aCons (dOp oIx (dVar 1) (dC (.int 0))) (aCons (dOp oIx (dVar 1) (dC (.int 1))) (aCons (dOp oIx (dVar 1) (dC (.int 2))) aNil))) (aCons (dListP 0 1) (aCons (dIxP 0 2) aNil))))))))
def m__law_wheel_p : List D → Option (R × List D) := runD 2 sm__law_wheel_p
def sm_Wheel_worn : SM := (retS (dUn (oFld [0] 2) (dVar 0)))
def m_Wheel_worn : List D → Option (R × List D) := runD 1 sm_Wheel_worn
def sm_Wheel_tracks : SM := (retO (dCall fListA (aCons (dUn (oFld [0] 0) (dVar 0)) aNil)))
def m_Wheel_tracks : List D → Option (R × List D) := runD 1 sm_Wheel_tracks
def sm_Wheel_shivers : SM := (retO (dCall fListA (aCons (dUn (oFld [0] 1) (dVar 0)) aNil)))
def m_Wheel_shivers : List D → Option (R × List D) := runD 1 sm_Wheel_shivers
def sm_Wheel___repr__ : SM := (retS (dJs [(dC (.str [87, 104, 101, 101, 108, 40])), (dUn fFmt (dProp 0 m_Wheel_size (dVar 0))), (dC (.str [32, 99, 101, 108, 108, 115, 44, 32])), (dUn fFmt (dProp 0 m_Wheel_many (dVar 0))), (dC (.str [32, 116, 114, 97, 99, 107, 115, 41]))] []))
def m_Wheel___repr__ : List D → Option (R × List D) := runD 1 sm_Wheel___repr__
def sm__law_wheel_text : SM := (seqS (setS 1 (dOp oAdd (dOp oAdd (dOp oAdd (dLst (aCons (dC (.str [119, 104, 101, 101, 108])) aNil)) (dOp oIx (dVar 0) (dC (.int 0)))) (dLst (aCons (dC (.str [115, 104, 105, 118, 101, 114])) aNil))) (dLc (iSeq (dOp oIx (dVar 0) (dC (.int 1)))) (gmName 2) (retB true) (dCall fStr (aCons (dVar 2) aNil)) [2])))
  (retS (dJoin (dC (.str [32])) (dOp oAdd (dVar 1) (dLst (aCons (dC (.str [119, 111, 114, 110])) (aCons (ifV (toB (isNonV (dOp oIx (dVar 0) (dC (.int 2))))) (dC (.str [45])) (dCall fStr (aCons (dOp oIx (dVar 0) (dC (.int 2))) aNil))) aNil)))))))
def m__law_wheel_text : List D → Option (R × List D) := runD 3 sm__law_wheel_text
def sm__law_plainly : SM := (seqS (ifS (toB (dOp oEq (dCall fLen (aCons (dVar 0) aNil)) (dC (.int 1)))) (retS (dFrz (dMakeA 0 0 2 (fun zs => pxD [0, 1] (zs ++ [.non, .non])) m_Wheel___init__ (aCons (dOp oIx (dVar 0) (dC (.int 0))) aNil) aNil))) nxS)
  (retS (ifV (toB (dOp oEq (dCall fLen (aCons (dVar 0) aNil)) (dC (.int 2)))) (dFrz (dMakeA 0 0 2 (fun zs => pxD [0, 1] (zs ++ [.non, .non])) m_Wheel___init__ (aCons (dOp oIx (dVar 0) (dC (.int 0))) (aCons (dOp oIx (dVar 0) (dC (.int 1))) aNil)) aNil)) (dFrz (dMakeA 0 0 2 (fun zs => pxD [0, 1] (zs ++ [.non, .non])) m_Wheel___init__ (aCons (dOp oIx (dVar 0) (dC (.int 0))) (aCons (dOp oIx (dVar 0) (dC (.int 1))) (aCons (dOp oIx (dVar 0) (dC (.int 2))) aNil))) aNil)))))
def m__law_plainly : List D → Option (R × List D) := runD 1 sm__law_plainly
theorem worn_ok (W : WM) (sz : Nat) : m_Wheel_worn [wheelD W sz] = some (.ok (optN W.wo), []) := by
  have os := opt_sh W.wo
  unfold m_Wheel_worn sm_Wheel_worn wheelD
  generalize cellsD W sz = C
  decreasing_trivial
theorem tracks_ok (W : WM) (sz : Nat) : m_Wheel_tracks [wheelD W sz] = some (.ok (.own (.lst (strL W.tr))), []) := by
  unfold m_Wheel_tracks sm_Wheel_tracks wheelD
  generalize cellsD W sz = C
  have fl : fListA [.lst (strL W.tr)] = some (.lst (strL W.tr)) := rfl
  generalize strL W.tr = T at fl ⊢
  decreasing_trivial
theorem shivers_ok (W : WM) (sz : Nat) : m_Wheel_shivers [wheelD W sz] = some (.ok (.own (.lst (intL W.sh))), []) := by
  unfold m_Wheel_shivers sm_Wheel_shivers wheelD
  generalize cellsD W sz = C
  have fl : fListA [.lst (intL W.sh)] = some (.lst (intL W.sh)) := rfl
  generalize intL W.sh = T at fl ⊢
  decreasing_trivial
def reprW (sz many : Nat) : List Nat := [87, 104, 101, 101, 108, 40] ++ numD (sz : Int) ++ [32, 99, 101, 108, 108, 115, 44, 32] ++ numD (many : Int) ++ [32, 116, 114, 97, 99, 107, 115, 41]
theorem repr_ok {W : WM} {sz many : Nat} (h : W.Ok sz many) : m_Wheel___repr__ [wheelD W sz] = some (.ok (.str (reprW sz many)), []) := by
  have s1 := size_ok h
  have s2 := wheel_many h
  have hs : sz ≤ 64 := by have := h.s12; omega
  have hm : many ≤ 64 := by have := h.m3; omega
  have f1 := fmt_num hs
  have f2 := fmt_num hm
  have n1 := (num_at hs).2
  have n2 := (num_at hm).2
  obtain ⟨l, w⟩ : ∃ l, wheelD W sz = .ins 0 l := ⟨_, rfl⟩
  rw [w] at s1 s2 ⊢
  unfold m_Wheel___repr__ sm_Wheel___repr__ reprW
  clear w h hs hm
  generalize numD (sz : Int) = A at f1 n1 ⊢
  generalize numD (many : Int) = B at f2 n2 ⊢
  have l1 : ([87, 104, 101, 101, 108, 40] : List Nat).length ≤ 16777216 := by decide
  have l2 : ([87, 104, 101, 101, 108, 40] ++ A).length ≤ 16777216 := by rw [List.length_append]; show 6 + A.length ≤ _; omega
  have l3 : ([87, 104, 101, 101, 108, 40] ++ A ++ [32, 99, 101, 108, 108, 115, 44, 32]).length ≤ 16777216 := by rw [List.length_append, List.length_append]; show 6 + A.length + 8 ≤ _; omega
  have l4 : ([87, 104, 101, 101, 108, 40] ++ A ++ [32, 99, 101, 108, 108, 115, 44, 32] ++ B).length ≤ 16777216 := by rw [List.length_append, List.length_append, List.length_append]; show 6 + A.length + 8 + B.length ≤ _; omega
  have l5 : ([87, 104, 101, 101, 108, 40] ++ A ++ [32, 99, 101, 108, 108, 115, 44, 32] ++ B ++ [32, 116, 114, 97, 99, 107, 115, 41]).length ≤ 16777216 := by rw [List.length_append, List.length_append, List.length_append, List.length_append]; show 6 + A.length + 8 + B.length + 8 ≤ _; omega
  have p1 : dProp 0 m_Wheel_size (dVar 0) [some (.ins 0 l)] = some (.ok (.int sz), [some (.ins 0 l)]) := by decreasing_trivial
  have p2 : dProp 0 m_Wheel_many (dVar 0) [some (.ins 0 l)] = some (.ok (.int many), [some (.ins 0 l)]) := by decreasing_trivial
  have j : dJs [(dC (.str [87, 104, 101, 101, 108, 40])), (dUn fFmt (dProp 0 m_Wheel_size (dVar 0))), (dC (.str [32, 99, 101, 108, 108, 115, 44, 32])), (dUn fFmt (dProp 0 m_Wheel_many (dVar 0))), (dC (.str [32, 116, 114, 97, 99, 107, 115, 41]))] [] [some (.ins 0 l)] = some (.ok (.str ([87, 104, 101, 101, 108, 40] ++ A ++ [32, 99, 101, 108, 108, 115, 44, 32] ++ B ++ [32, 116, 114, 97, 99, 107, 115, 41])), [some (.ins 0 l)]) := by
    simp only [dJs, ev_bE, ev_dC, ev_dUn, p1, p2, f1, f2, ev_lift, l1, l2, l3, l4, l5, if_true, List.nil_append]
  generalize dJs [(dC (.str [87, 104, 101, 101, 108, 40])), (dUn fFmt (dProp 0 m_Wheel_size (dVar 0))), (dC (.str [32, 99, 101, 108, 108, 115, 44, 32])), (dUn fFmt (dProp 0 m_Wheel_many (dVar 0))), (dC (.str [32, 116, 114, 97, 99, 107, 115, 41]))] [] = J at j ⊢
  generalize [87, 104, 101, 101, 108, 40] ++ A ++ [32, 99, 101, 108, 108, 115, 44, 32] ++ B ++ [32, 116, 114, 97, 99, 107, 115, 41] = RR at j ⊢
  clear l1 l2 l3 l4 l5 p1 p2 f1 f2 s1 s2
  decreasing_trivial
theorem wheel_init0 {W : WM} {sz many : Nat} (h : W.Ok sz many) (hz : W.sh = List.replicate many 0) : m_Wheel___init__ [.pin (.ins 0 []), .non, optN W.wo, .tup (strL W.tr)] = some (.ok .non, [wheelD W sz]) := by
  have mz : oMulA (.lst [.int 0]) (.int many) = some (.lst (intL W.sh)) := by
    have m1 := h.m1
    have m3 := h.m3
    have : many = 1 ∨ many = 2 ∨ many = 3 := by omega
    rw [hz]
    clear hz
    have h3 := h.len
    clear h
    rcases this with rfl | rfl | rfl <;> rfl
  clear hz
  have hm := h.m3
  have hs12 := h.s12
  have nt := need_tracks_ok h
  have ns := need_shivers_ok h
  have ln : ((strL W.tr).length : Int) = (many : Int) := by rw [strL_len, h.len]
  obtain ⟨t0, ht0, hl0⟩ : ∃ t0, (strL W.tr)[0]? = some (.str t0) ∧ t0.length = sz := ⟨W.tr.getD 0 [], strL_at h.pos, (h.tr_at h.m1).1⟩
  have c1 := dLc_map (im := iRange1 (aCons (dCall fLen (aCons (dOp oIx (dVar 3) (dC (.int 0))) aNil)) aNil)) (v := 5) (em := dMethS 0 0 2 m_Wheel_sights_at_p (aCons (dVar 5) aNil)) (env := [some (.pin (.ins 0 [(0, .lst (strL W.tr)), (1, .lst (intL W.sh)), (2, optN W.wo)])), some .non, some (optN W.wo), some (.tup (strL W.tr)), some (.lst (intL W.sh)), none]) (xs := rangeD 0 sz) (intF fun b => .lst (strL (sightsM W b)))
    (by
      have b1 : big62 (t0.length : Int) = true := big62_of (by omega) (by omega)
      rw [← hl0]
      clear h hl0
      decreasing_trivial) (by rw [range_len]; omega) (by simp) rfl (by
      intro x hx
      obtain ⟨i, hi, rfl⟩ := mem_range hx
      have s := sights_at h (fs := [(0, .lst (strL W.tr)), (1, .lst (intL W.sh)), (2, optN W.wo)]) rfl rfl rfl (0 + (i : Int))
      clear hx h
      simp only [ev_runD, ev_fin_nx, ev_fin_rt, ev_fin_ex, ev_outs_nil, ev_outs_pin, ev_outs_non, ev_outs_bl, ev_outs_int, ev_outs_str, ev_outs_tup, ev_outs_lst, ev_outs_dic, ev_outs_ins, ev_startD, ev_seqS, ev_nxS, ev_bkS, ev_ctS, ev_retN, ev_bS, ev_dropS, ev_retS, ev_retO, ev_ifS, ev_setS, ev_setO, ev_toS, ev_putS, ev_freeSl, np_none, np_own, np_pin, np_non, np_bl, np_int, np_str, np_tup, np_lst, np_dic, np_ins, sh_non, sh_bl, sh_int, sh_str, sh_tup, sh_lst, sh_dic, sh_ins, sh_own, sh_pin, ev_lift, ev_liftN, ev_bE, ev_bB, ev_bA, ev_cB, ev_cBB, ev_retB, ev_dVar, ev_dC, ev_dOp, ev_dUn, ev_toB, ev_truB, ev_notB, ev_andB, ev_orB, ev_andV, ev_orV, ev_notV, ev_ifV, ev_chainV, ev_isNonV, ev_notNonV, ev_aNil, ev_aCons, ev_aStar, ev_shs_nil, ev_shs, shs_app, ev_bL, ev_dTup, ev_dLst, ev_dCall, ev_dCallN, ev_dCallNO, ev_dFrz, frz_lst, frz_dic, frz_ins, ev_dVarF, ev_retV, ev_asgS, ev_gmName, ev_gmTup, ev_gmNil, ev_gmCons, ev_forS, ev_liftI, ev_bIE, ev_bIA, ev_iSeq, ev_seq_lst, ev_seq_tup, ev_seq_str, ev_items_lst, ev_items_tup, ev_iRange1, ev_iRange2, ev_dSlice, ev_optN, ev_optS, ev_altE, ev_isiD, ev_isiT, kd_non, kd_bl, kd_int, kd_str, kd_tup, kd_lst, kd_dic, kd_ins, tab_bb, tab_bo, tab_ob, tab_oo, cd0, cd1, cd2, cd3, cd4, cd5, cd6, tru_non, tru_bl, tru_int, tru_str, tru_lst, tru_tup, len_str, len_lst, len_tup, o_sub, o_lt, o_le, o_gt, o_ge, o_mod, o_div, o_neg, o_addI, o_addS, o_addL, o_addT, o_isB, o_notB, o_eqI, o_neI, o_eqS, o_neS, o_eqB, o_neB, o_eqNI, o_eqIN, o_inS, o_ixL, o_ixT, o_ixS, atD_0, atD_1, atD_2, atD_3, atD_4, listA_lst, listA_tup, fInt_int, ev_slIns, ev_dFldS, ev_fldS, ev_slInsPut, putFD_nil, putFD_cons, ev_oFld, ev_slLst, ev_slPut, ev_dIxS, ev_lenS, ev_appS, ev_stoS, ev_dMethS, ev_dMethSO, ev_onS, ev_callS0, ev_onC, ev_isC, ev_callM, ev_callMO, ev_dMeth, ev_dMethO, ev_dProp, ev_dMakeA, pxD_nil, pxD_cons, ev_xNil, ev_xCons, ev_xOwn, putXs_nil, putXs_sh, putXs_ow, ev_parX, ev_iEnumAD, o_mulI, o_mulL, ev_needS, ev_dCallS, ev_callS, ev_aSlot, ev_dCallB, ev_callB, lent_nil, lent_sh, lent_sl, scal_bl, ev_starM, ev_take0, ev_take1, ev_drop0, ev_drop1, ev_dCallStar, ev_dMethStar, ev_dMakeN, ev_isk_int, ev_isk_str, ev_keyT, ev_slDic, ev_slPutD, ev_dInS, ev_dPutS, ev_dicOf, ev_dGet2P, ev_aStarVals, ev_clrS, ev_clrT, List.getElem?_cons_zero, List.getElem?_cons_succ, List.getElem?_nil, List.set_cons_zero, List.set_cons_succ, List.set_nil, List.map_cons, List.map_nil, List.cons_append, List.nil_append, List.length_cons, List.length_nil, Option.map_some, Option.map_none, reduceIte, if_true, ite_true, ite_false, if_false, Bool.and_true, Bool.true_and, Bool.and_false, Bool.false_and, Bool.or_true, Bool.true_or, Bool.or_false, Bool.false_or, Bool.not_true, Bool.not_false, Bool.true_eq_false, Bool.false_eq_true, decide_true, decide_false, Nat.reduceAdd, Nat.reduceSub, Nat.reduceMul, Nat.reduceLeDiff, Nat.reduceLT, Nat.reduceEqDiff, Nat.reduceBEq, Int.reduceLT, Int.reduceLE, Int.reduceEq, Int.reduceAdd, Int.reduceSub, Int.reduceBEq, List.reduceReplicate, List.contains_cons, List.contains_nil, List.lookup_cons, Option.isSome_some, Option.isSome_none, beq_self_eq_true, bne_self_eq_false, List.all_cons, List.all_nil, List.any_cons, List.any_nil, Nat.zero_add, List.append_nil, and_true, true_and, and_self, decide_eq_true_eq, Nat.reduceDiv, Int.toNat_natCast, List.getD_cons_zero, List.getD_cons_succ, Int.cast_ofNat_Int, Int.natCast_zero, Nat.le_refl, Nat.reduceBNe, Int.reduceBNe, Bool.and_self, Bool.or_self, not_true_eq_false, not_false_eq_true, ne_eq, reduceCtorEq, intF, *])
  have e : (rangeD 0 sz).map (intF fun b => .lst (strL (sightsM W b))) = cellsD W sz := by
    rw [range_map]
    unfold cellsD
    refine List.map_congr_left fun i _ => ?_
    simp only [intF, Int.zero_add]
  rw [e] at c1
  have hv : optN W.wo = .non ∨ ∃ i : Nat, optN W.wo = .int i ∧ m_is_number [.int i, .int 0, .int ((many : Int) - 1)] = some (.ok (.bl true), []) := by
    cases q : W.wo with
    | none => exact .inl rfl
    | some i =>
      have hi := h.wov i q
      have d := num_int i 0 (many - 1)
      have d1 : decide ((0 : Int) ≤ (i : Nat)) = true := by simp
      have d2 : decide (((i : Nat) : Int) ≤ (many : Int) - 1) = true := by rw [decide_eq_true_eq]; omega
      rw [d1, d2] at d
      exact .inr ⟨i, rfl, d⟩
  unfold m_Wheel___init__ sm_Wheel___init__ wheelD
  clear h e hl0
  rcases hv with hv | ⟨i, hv, d⟩
  · rw [hv] at c1 ⊢
    clear hv
    decreasing_trivial
  · rw [hv] at c1 ⊢
    clear hv
    decreasing_trivial
theorem law_wheel_p_ok {W : WM} {sz many : Nat} (h : W.Ok sz many) : m__law_wheel_p [.pin (.tup [.lst (strL W.tr), .own (.lst (intL W.sh)), optN W.wo])] = some (.ok (wheelD W sz), [.tup [.lst (strL W.tr), .own (.lst (intL W.sh)), optN W.wo]]) := by
  have wi := wheel_init h
  have ws := wheel_sh W sz
  have hm := h.len
  have m1 := h.m1
  have m3 := h.m3
  have os := opt_sh W.wo
  unfold m__law_wheel_p sm__law_wheel_p dListP dIxP
  unfold wheelD at wi ⊢
  have e1 : ((1 : Int) == 1) = true := rfl
  have e2 : ((2 : Int) == 1) = false := rfl
  have e3 : ((3 : Int) == 1) = false := rfl
  have e4 : ((2 : Int) == 2) = true := rfl
  have e5 : ((3 : Int) == 2) = false := rfl
  generalize cellsD W sz = C at wi ws ⊢
  generalize optN W.wo = o at wi ws os ⊢
  generalize intL W.sh = sh at wi ws ⊢
  generalize W.tr = tr at wi ws hm ⊢
  clear h
  rcases tr with _ | ⟨a, _ | ⟨b, _ | ⟨c, _ | ⟨d, r⟩⟩⟩⟩
  · simp at hm; omega
  · clear hm m1 m3
    simp only [strL, List.map_cons, List.map_nil] at wi ws ⊢
    decreasing_trivial
  · clear hm m1 m3
    simp only [strL, List.map_cons, List.map_nil] at wi ws ⊢
    decreasing_trivial
  · clear hm m1 m3
    simp only [strL, List.map_cons, List.map_nil] at wi ws ⊢
    decreasing_trivial
  · simp at hm; omega
theorem plainly_ok {W : WM} {sz many : Nat} (h : W.Ok sz many) (hz : W.sh = List.replicate many 0) (hw : W.wo = none) : m__law_plainly [.lst (strL W.tr)] = some (.ok (wheelD W sz), []) := by
  have wi := wheel_init0 h hz
  have ws := wheel_sh W sz
  have hm := h.len
  have m1 := h.m1
  have m3 := h.m3
  have os := opt_sh W.wo
  unfold m__law_plainly sm__law_plainly
  unfold wheelD at wi ⊢
  have e1 : ((1 : Int) == 1) = true := rfl
  have e2 : ((2 : Int) == 1) = false := rfl
  have e3 : ((3 : Int) == 1) = false := rfl
  have e4 : ((2 : Int) == 2) = true := rfl
  have e5 : ((3 : Int) == 2) = false := rfl
  generalize cellsD W sz = C at wi ws ⊢
  rw [hw] at wi ws os ⊢
  unfold optN at wi ws os ⊢
  generalize intL W.sh = sh at wi ws ⊢
  generalize W.tr = tr at wi ws hm ⊢
  clear h
  rcases tr with _ | ⟨a, _ | ⟨b, _ | ⟨c, _ | ⟨d, r⟩⟩⟩⟩
  · simp at hm; omega
  · clear hm m1 m3
    simp only [strL, List.map_cons, List.map_nil] at wi ws ⊢
    decreasing_trivial
  · clear hm m1 m3
    simp only [strL, List.map_cons, List.map_nil] at wi ws ⊢
    decreasing_trivial
  · clear hm m1 m3
    simp only [strL, List.map_cons, List.map_nil] at wi ws ⊢
    decreasing_trivial
  · simp at hm; omega
end DS
namespace DS
local macro_rules | `(tactic| decreasing_trivial) => `(tactic| simp only [ev_runD, ev_fin_nx, ev_fin_rt, ev_fin_ex, ev_outs_nil, ev_outs_pin, ev_outs_non, ev_outs_bl, ev_outs_int, ev_outs_str, ev_outs_tup, ev_outs_lst, ev_outs_dic, ev_outs_ins, ev_startD, ev_seqS, ev_nxS, ev_bkS, ev_ctS, ev_retN, ev_bS, ev_dropS, ev_retS, ev_retO, ev_ifS, ev_setS, ev_setO, ev_toS, ev_putS, ev_freeSl, np_none, np_own, np_pin, np_non, np_bl, np_int, np_str, np_tup, np_lst, np_dic, np_ins, sh_non, sh_bl, sh_int, sh_str, sh_tup, sh_lst, sh_dic, sh_ins, sh_own, sh_pin, ev_lift, ev_liftN, ev_bE, ev_bB, ev_bA, ev_cB, ev_cBB, ev_retB, ev_dVar, ev_dC, ev_dOp, ev_dUn, ev_toB, ev_truB, ev_notB, ev_andB, ev_orB, ev_andV, ev_orV, ev_notV, ev_ifV, ev_chainV, ev_isNonV, ev_notNonV, ev_aNil, ev_aCons, ev_aStar, ev_shs_nil, ev_shs, shs_app, ev_bL, ev_dTup, ev_dLst, ev_dCall, ev_dCallN, ev_dCallNO, ev_dFrz, frz_lst, frz_dic, frz_ins, ev_dVarF, ev_retV, ev_asgS, ev_gmName, ev_gmTup, ev_gmNil, ev_gmCons, ev_forS, ev_liftI, ev_bIE, ev_bIA, ev_iSeq, ev_seq_lst, ev_seq_tup, ev_seq_str, ev_items_lst, ev_items_tup, ev_iRange1, ev_iRange2, ev_dSlice, ev_optN, ev_optS, ev_altE, ev_isiD, ev_isiT, kd_non, kd_bl, kd_int, kd_str, kd_tup, kd_lst, kd_dic, kd_ins, tab_bb, tab_bo, tab_ob, tab_oo, cd0, cd1, cd2, cd3, cd4, cd5, cd6, tru_non, tru_bl, tru_int, tru_str, tru_lst, tru_tup, len_str, len_lst, len_tup, o_sub, o_lt, o_le, o_gt, o_ge, o_mod, o_div, o_neg, o_addI, o_addS, o_addL, o_addT, o_isB, o_notB, o_eqI, o_neI, o_eqS, o_neS, o_eqB, o_neB, o_eqNI, o_eqIN, o_inS, o_ixL, o_ixT, o_ixS, atD_0, atD_1, atD_2, atD_3, atD_4, listA_lst, listA_tup, fInt_int, ev_slIns, ev_dFldS, ev_fldS, ev_slInsPut, putFD_nil, putFD_cons, ev_oFld, ev_slLst, ev_slPut, ev_dIxS, ev_lenS, ev_appS, ev_stoS, ev_dMethS, ev_dMethSO, ev_onS, ev_callS0, ev_onC, ev_isC, ev_callM, ev_callMO, ev_dMeth, ev_dMethO, ev_dProp, ev_dMakeA, pxD_nil, pxD_cons, ev_xNil, ev_xCons, ev_xOwn, putXs_nil, putXs_sh, putXs_ow, ev_parX, ev_iEnumAD, o_mulI, o_mulL, ev_needS, ev_dCallS, ev_callS, ev_aSlot, ev_dCallB, ev_callB, lent_nil, lent_sh, lent_sl, scal_bl, ev_starM, ev_take0, ev_take1, ev_drop0, ev_drop1, ev_dCallStar, ev_dMethStar, ev_dMakeN, ev_isk_int, ev_isk_str, ev_keyT, ev_slDic, ev_slPutD, ev_dInS, ev_dPutS, ev_dicOf, ev_dGet2P, ev_aStarVals, ev_clrS, ev_clrT, List.getElem?_cons_zero, List.getElem?_cons_succ, List.getElem?_nil, List.set_cons_zero, List.set_cons_succ, List.set_nil, List.map_cons, List.map_nil, List.cons_append, List.nil_append, List.length_cons, List.length_nil, Option.map_some, Option.map_none, reduceIte, if_true, ite_true, ite_false, if_false, Bool.and_true, Bool.true_and, Bool.and_false, Bool.false_and, Bool.or_true, Bool.true_or, Bool.or_false, Bool.false_or, Bool.not_true, Bool.not_false, Bool.true_eq_false, Bool.false_eq_true, decide_true, decide_false, Nat.reduceAdd, Nat.reduceSub, Nat.reduceMul, Nat.reduceLeDiff, Nat.reduceLT, Nat.reduceEqDiff, Nat.reduceBEq, Int.reduceLT, Int.reduceLE, Int.reduceEq, Int.reduceAdd, Int.reduceSub, Int.reduceBEq, List.reduceReplicate, List.contains_cons, List.contains_nil, List.lookup_cons, Option.isSome_some, Option.isSome_none, beq_self_eq_true, bne_self_eq_false, List.all_cons, List.all_nil, List.any_cons, List.any_nil, Nat.zero_add, List.append_nil, and_true, true_and, and_self, decide_eq_true_eq, Nat.reduceDiv, Int.toNat_natCast, List.getD_cons_zero, List.getD_cons_succ, Int.cast_ofNat_Int, Int.natCast_zero, Nat.le_refl, Nat.reduceBNe, Int.reduceBNe, Bool.and_self, Bool.or_self, not_true_eq_false, not_false_eq_true, ne_eq, reduceCtorEq, *])
instance decW : DecidableEq WM := fun r s => decidable_of_iff (r.tr = s.tr ∧ r.sh = s.sh ∧ r.wo = s.wo) ⟨fun h => by
  cases r; cases s
  obtain ⟨h1, h2, h3⟩ := h
  subst h1 h2 h3
  rfl, fun h => by rw [h]; exact ⟨rfl, rfl, rfl⟩⟩
theorem law_text_ok {W : WM} {sz many : Nat} (h : W.Ok sz many) : m__law_wheel_text [encW W] = some (.ok (.str (textM W)), []) := by
  have m3 := h.m3
  have jw := join_words h
  have wn : ∀ i, W.wo = some i → fStr [.int (i : Int)] = some (.str (numD i)) := fun i q => str_num (by have := h.wov i q; omega)
  have c : dLc (iSeq (dOp oIx (dVar 0) (dC (.int 1)))) (gmName 2) (retB true) (dCall fStr (aCons (dVar 2) aNil)) [2] [some (encW W), none, none] = some (.ok (.lst (strL (W.sh.map fun s : Nat => numD (s : Int)))), [some (encW W), none, none]) := by
    have q := dLc_map (im := iSeq (dOp oIx (dVar 0) (dC (.int 1)))) (v := 2) (em := dCall fStr (aCons (dVar 2) aNil)) (env := [some (encW W), none, none]) (xs := intL W.sh) strI (by
      unfold encW
      generalize intL W.sh = I
      decreasing_trivial) (by unfold intL; rw [List.length_map, h.shl]; omega) (by simp) rfl (by
      intro x hx
      unfold intL at hx
      obtain ⟨s, hs, rfl⟩ := List.mem_map.mp hx
      have sn := str_num (n := s) (by have := h.shv s hs; omega)
      unfold encW strI
      clear hx
      decreasing_trivial)
    have e : (intL W.sh).map strI = strL (W.sh.map fun s : Nat => numD (s : Int)) := by
      unfold intL strL
      rw [List.map_map, List.map_map]
      rfl
    rw [e] at q
    exact q
  have ws : strL (wordsM W) = .str [119, 104, 101, 101, 108] :: (strL W.tr ++ (.str [115, 104, 105, 118, 101, 114] :: (strL (W.sh.map fun s : Nat => numD (s : Int)) ++ [.str [119, 111, 114, 110], .str (wornT W.wo)]))) := by
    unfold wordsM strL
    simp only [List.map_cons, List.map_append, List.map_nil]
  have l1 : (strL W.tr).length ≤ 100 := by rw [strL_len, h.len]; omega
  have l2 : (strL (W.sh.map fun s : Nat => numD (s : Int))).length ≤ 100 := by rw [strL_len, List.length_map, h.shl]; omega
  rw [ws] at jw
  have os := opt_sh W.wo
  have x0 : oIx (encW W) (.int 0) = some (.lst (strL W.tr)) := rfl
  have x2 : oIx (encW W) (.int 2) = some (optN W.wo) := rfl
  have es : (encW W).sh = true := by
    obtain ⟨_, w1⟩ := encW_sh W
    rw [w1]; rfl
  obtain ⟨l, w⟩ : ∃ l, encW W = .tup l := ⟨_, rfl⟩
  rw [w] at x0 x2 es c ⊢
  unfold m__law_wheel_text sm__law_wheel_text
  clear ws h w
  generalize strL (W.sh.map fun s : Nat => numD (s : Int)) = SH at c jw l2
  generalize strL W.tr = TR at x0 jw l1
  generalize dLc (iSeq (dOp oIx (dVar 0) (dC (.int 1)))) (gmName 2) (retB true) (dCall fStr (aCons (dVar 2) aNil)) [2] = G at c ⊢
  generalize textM W = TX at jw ⊢
  have a1 : oAdd (.lst [.str [119, 104, 101, 101, 108]]) (.lst TR) = some (.lst (.str [119, 104, 101, 101, 108] :: TR)) := by
    simp [oAdd]; omega
  have a2 : oAdd (.lst (.str [119, 104, 101, 101, 108] :: TR)) (.lst [.str [115, 104, 105, 118, 101, 114]]) = some (.lst (.str [119, 104, 101, 101, 108] :: (TR ++ [.str [115, 104, 105, 118, 101, 114]]))) := by
    simp [oAdd]; omega
  have a3 : oAdd (.lst (.str [119, 104, 101, 101, 108] :: (TR ++ [.str [115, 104, 105, 118, 101, 114]]))) (.lst SH) = some (.lst (.str [119, 104, 101, 101, 108] :: (TR ++ (.str [115, 104, 105, 118, 101, 114] :: SH)))) := by
    simp [oAdd]; omega
  have a4 : ∀ t : List Nat, oAdd (.lst (.str [119, 104, 101, 101, 108] :: (TR ++ (.str [115, 104, 105, 118, 101, 114] :: SH)))) (.lst [.str [119, 111, 114, 110], .str t]) = some (.lst (.str [119, 104, 101, 101, 108] :: (TR ++ (.str [115, 104, 105, 118, 101, 114] :: (SH ++ [.str [119, 111, 114, 110], .str t]))))) := by
    intro t
    simp [oAdd]; omega
  generalize D.str [119, 104, 101, 101, 108] :: (TR ++ (.str [115, 104, 105, 118, 101, 114] :: SH)) = L3 at a3 a4
  cases q : W.wo with
  | none =>
    rw [q] at x2 jw os
    have b4 := a4 [45]
    have jw : joinD [32] (.lst (.str [119, 104, 101, 101, 108] :: (TR ++ (.str [115, 104, 105, 118, 101, 114] :: (SH ++ [.str [119, 111, 114, 110], .str [45]]))))) = some (.str TX) := jw
    clear a4 wn q
    generalize D.str [119, 104, 101, 101, 108] :: (TR ++ (.str [115, 104, 105, 118, 101, 114] :: (SH ++ [.str [119, 111, 114, 110], .str [45]]))) = LL at jw b4
    generalize D.str [119, 104, 101, 101, 108] :: (TR ++ [.str [115, 104, 105, 118, 101, 114]]) = L2 at a2 a3
    generalize D.str [119, 104, 101, 101, 108] :: TR = L1 at a1 a2
    unfold optN at x2 os
    simp only [ev_runD, ev_fin_nx, ev_fin_rt, ev_fin_ex, ev_outs_nil, ev_outs_pin, ev_outs_non, ev_outs_bl, ev_outs_int, ev_outs_str, ev_outs_tup, ev_outs_lst, ev_outs_dic, ev_outs_ins, ev_startD, ev_seqS, ev_nxS, ev_bkS, ev_ctS, ev_retN, ev_bS, ev_dropS, ev_retS, ev_retO, ev_ifS, ev_setS, ev_setO, ev_toS, ev_putS, ev_freeSl, np_none, np_own, np_pin, np_non, np_bl, np_int, np_str, np_tup, np_lst, np_dic, np_ins, sh_non, sh_bl, sh_int, sh_str, sh_tup, sh_lst, sh_dic, sh_ins, sh_own, sh_pin, ev_lift, ev_liftN, ev_bE, ev_bB, ev_bA, ev_cB, ev_cBB, ev_retB, ev_dVar, ev_dC, ev_dOp, ev_dUn, ev_toB, ev_truB, ev_notB, ev_andB, ev_orB, ev_andV, ev_orV, ev_notV, ev_ifV, ev_chainV, ev_isNonV, ev_notNonV, ev_aNil, ev_aCons, ev_aStar, ev_shs_nil, ev_shs, shs_app, ev_bL, ev_dTup, ev_dLst, ev_dCall, ev_dCallN, ev_dCallNO, ev_dFrz, frz_lst, frz_dic, frz_ins, ev_dVarF, ev_retV, ev_asgS, ev_gmName, ev_gmTup, ev_gmNil, ev_gmCons, ev_forS, ev_liftI, ev_bIE, ev_bIA, ev_iSeq, ev_seq_lst, ev_seq_tup, ev_seq_str, ev_items_lst, ev_items_tup, ev_iRange1, ev_iRange2, ev_dSlice, ev_optN, ev_optS, ev_altE, ev_isiD, ev_isiT, kd_non, kd_bl, kd_int, kd_str, kd_tup, kd_lst, kd_dic, kd_ins, tab_bb, tab_bo, tab_ob, tab_oo, cd0, cd1, cd2, cd3, cd4, cd5, cd6, tru_non, tru_bl, tru_int, tru_str, tru_lst, tru_tup, len_str, len_lst, len_tup, o_sub, o_lt, o_le, o_gt, o_ge, o_mod, o_div, o_neg, o_addI, o_addS, o_addL, o_addT, o_isB, o_notB, o_eqI, o_neI, o_eqS, o_neS, o_eqB, o_neB, o_eqNI, o_eqIN, o_inS, o_ixL, o_ixT, o_ixS, atD_0, atD_1, atD_2, atD_3, atD_4, listA_lst, listA_tup, fInt_int, ev_slIns, ev_dFldS, ev_fldS, ev_slInsPut, putFD_nil, putFD_cons, ev_oFld, ev_slLst, ev_slPut, ev_dIxS, ev_lenS, ev_appS, ev_stoS, ev_dMethS, ev_dMethSO, ev_onS, ev_callS0, ev_onC, ev_isC, ev_callM, ev_callMO, ev_dMeth, ev_dMethO, ev_dProp, ev_dMakeA, pxD_nil, pxD_cons, ev_xNil, ev_xCons, ev_xOwn, putXs_nil, putXs_sh, putXs_ow, ev_parX, ev_iEnumAD, o_mulI, o_mulL, ev_needS, ev_dCallS, ev_callS, ev_aSlot, ev_dCallB, ev_callB, lent_nil, lent_sh, lent_sl, scal_bl, ev_starM, ev_take0, ev_take1, ev_drop0, ev_drop1, ev_dCallStar, ev_dMethStar, ev_dMakeN, ev_isk_int, ev_isk_str, ev_keyT, ev_slDic, ev_slPutD, ev_dInS, ev_dPutS, ev_dicOf, ev_dGet2P, ev_aStarVals, ev_clrS, ev_clrT, List.getElem?_cons_zero, List.getElem?_cons_succ, List.getElem?_nil, List.set_cons_zero, List.set_cons_succ, List.set_nil, List.map_cons, List.map_nil, List.cons_append, List.nil_append, List.length_cons, List.length_nil, Option.map_some, Option.map_none, reduceIte, if_true, ite_true, ite_false, if_false, Bool.and_true, Bool.true_and, Bool.and_false, Bool.false_and, Bool.or_true, Bool.true_or, Bool.or_false, Bool.false_or, Bool.not_true, Bool.not_false, Bool.true_eq_false, Bool.false_eq_true, decide_true, decide_false, Nat.reduceAdd, Nat.reduceSub, Nat.reduceMul, Nat.reduceLeDiff, Nat.reduceLT, Nat.reduceEqDiff, Nat.reduceBEq, Int.reduceLT, Int.reduceLE, Int.reduceEq, Int.reduceAdd, Int.reduceSub, Int.reduceBEq, List.reduceReplicate, List.contains_cons, List.contains_nil, List.lookup_cons, Option.isSome_some, Option.isSome_none, beq_self_eq_true, bne_self_eq_false, List.all_cons, List.all_nil, List.any_cons, List.any_nil, Nat.zero_add, List.append_nil, and_true, true_and, and_self, decide_eq_true_eq, Nat.reduceDiv, Int.toNat_natCast, List.getD_cons_zero, List.getD_cons_succ, Int.cast_ofNat_Int, Int.natCast_zero, Nat.le_refl, Nat.reduceBNe, Int.reduceBNe, Bool.and_self, Bool.or_self, not_true_eq_false, not_false_eq_true, ne_eq, reduceCtorEq, dJoin, *]
  | some i =>
    have wi := wn i q
    rw [q] at x2 jw os
    have b4 := a4 (numD i)
    have jw : joinD [32] (.lst (.str [119, 104, 101, 101, 108] :: (TR ++ (.str [115, 104, 105, 118, 101, 114] :: (SH ++ [.str [119, 111, 114, 110], .str (numD i)]))))) = some (.str TX) := jw
    clear a4 wn q
    generalize D.str [119, 104, 101, 101, 108] :: (TR ++ (.str [115, 104, 105, 118, 101, 114] :: (SH ++ [.str [119, 111, 114, 110], .str (numD i)]))) = LL at jw b4
    generalize D.str [119, 104, 101, 101, 108] :: (TR ++ [.str [115, 104, 105, 118, 101, 114]]) = L2 at a2 a3
    generalize D.str [119, 104, 101, 101, 108] :: TR = L1 at a1 a2
    unfold optN at x2 os
    simp only [ev_runD, ev_fin_nx, ev_fin_rt, ev_fin_ex, ev_outs_nil, ev_outs_pin, ev_outs_non, ev_outs_bl, ev_outs_int, ev_outs_str, ev_outs_tup, ev_outs_lst, ev_outs_dic, ev_outs_ins, ev_startD, ev_seqS, ev_nxS, ev_bkS, ev_ctS, ev_retN, ev_bS, ev_dropS, ev_retS, ev_retO, ev_ifS, ev_setS, ev_setO, ev_toS, ev_putS, ev_freeSl, np_none, np_own, np_pin, np_non, np_bl, np_int, np_str, np_tup, np_lst, np_dic, np_ins, sh_non, sh_bl, sh_int, sh_str, sh_tup, sh_lst, sh_dic, sh_ins, sh_own, sh_pin, ev_lift, ev_liftN, ev_bE, ev_bB, ev_bA, ev_cB, ev_cBB, ev_retB, ev_dVar, ev_dC, ev_dOp, ev_dUn, ev_toB, ev_truB, ev_notB, ev_andB, ev_orB, ev_andV, ev_orV, ev_notV, ev_ifV, ev_chainV, ev_isNonV, ev_notNonV, ev_aNil, ev_aCons, ev_aStar, ev_shs_nil, ev_shs, shs_app, ev_bL, ev_dTup, ev_dLst, ev_dCall, ev_dCallN, ev_dCallNO, ev_dFrz, frz_lst, frz_dic, frz_ins, ev_dVarF, ev_retV, ev_asgS, ev_gmName, ev_gmTup, ev_gmNil, ev_gmCons, ev_forS, ev_liftI, ev_bIE, ev_bIA, ev_iSeq, ev_seq_lst, ev_seq_tup, ev_seq_str, ev_items_lst, ev_items_tup, ev_iRange1, ev_iRange2, ev_dSlice, ev_optN, ev_optS, ev_altE, ev_isiD, ev_isiT, kd_non, kd_bl, kd_int, kd_str, kd_tup, kd_lst, kd_dic, kd_ins, tab_bb, tab_bo, tab_ob, tab_oo, cd0, cd1, cd2, cd3, cd4, cd5, cd6, tru_non, tru_bl, tru_int, tru_str, tru_lst, tru_tup, len_str, len_lst, len_tup, o_sub, o_lt, o_le, o_gt, o_ge, o_mod, o_div, o_neg, o_addI, o_addS, o_addL, o_addT, o_isB, o_notB, o_eqI, o_neI, o_eqS, o_neS, o_eqB, o_neB, o_eqNI, o_eqIN, o_inS, o_ixL, o_ixT, o_ixS, atD_0, atD_1, atD_2, atD_3, atD_4, listA_lst, listA_tup, fInt_int, ev_slIns, ev_dFldS, ev_fldS, ev_slInsPut, putFD_nil, putFD_cons, ev_oFld, ev_slLst, ev_slPut, ev_dIxS, ev_lenS, ev_appS, ev_stoS, ev_dMethS, ev_dMethSO, ev_onS, ev_callS0, ev_onC, ev_isC, ev_callM, ev_callMO, ev_dMeth, ev_dMethO, ev_dProp, ev_dMakeA, pxD_nil, pxD_cons, ev_xNil, ev_xCons, ev_xOwn, putXs_nil, putXs_sh, putXs_ow, ev_parX, ev_iEnumAD, o_mulI, o_mulL, ev_needS, ev_dCallS, ev_callS, ev_aSlot, ev_dCallB, ev_callB, lent_nil, lent_sh, lent_sl, scal_bl, ev_starM, ev_take0, ev_take1, ev_drop0, ev_drop1, ev_dCallStar, ev_dMethStar, ev_dMakeN, ev_isk_int, ev_isk_str, ev_keyT, ev_slDic, ev_slPutD, ev_dInS, ev_dPutS, ev_dicOf, ev_dGet2P, ev_aStarVals, ev_clrS, ev_clrT, List.getElem?_cons_zero, List.getElem?_cons_succ, List.getElem?_nil, List.set_cons_zero, List.set_cons_succ, List.set_nil, List.map_cons, List.map_nil, List.cons_append, List.nil_append, List.length_cons, List.length_nil, Option.map_some, Option.map_none, reduceIte, if_true, ite_true, ite_false, if_false, Bool.and_true, Bool.true_and, Bool.and_false, Bool.false_and, Bool.or_true, Bool.true_or, Bool.or_false, Bool.false_or, Bool.not_true, Bool.not_false, Bool.true_eq_false, Bool.false_eq_true, decide_true, decide_false, Nat.reduceAdd, Nat.reduceSub, Nat.reduceMul, Nat.reduceLeDiff, Nat.reduceLT, Nat.reduceEqDiff, Nat.reduceBEq, Int.reduceLT, Int.reduceLE, Int.reduceEq, Int.reduceAdd, Int.reduceSub, Int.reduceBEq, List.reduceReplicate, List.contains_cons, List.contains_nil, List.lookup_cons, Option.isSome_some, Option.isSome_none, beq_self_eq_true, bne_self_eq_false, List.all_cons, List.all_nil, List.any_cons, List.any_nil, Nat.zero_add, List.append_nil, and_true, true_and, and_self, decide_eq_true_eq, Nat.reduceDiv, Int.toNat_natCast, List.getD_cons_zero, List.getD_cons_succ, Int.cast_ofNat_Int, Int.natCast_zero, Nat.le_refl, Nat.reduceBNe, Int.reduceBNe, Bool.and_self, Bool.or_self, not_true_eq_false, not_false_eq_true, ne_eq, reduceCtorEq, dJoin, *]
theorem cmpW_ok {W V : WM} {sz many : Nat} (h : W.Ok sz many) (h' : V.Ok sz many) (neg : Bool) : fCmpO 0 m_Wheel___eq__ neg (wheelD W sz) (wheelD V sz) = some (.bl (decide (W = V) ^^ neg)) := by
  have e := wheel_eq h h' (decW W V)
  obtain ⟨l, w⟩ : ∃ l, wheelD W sz = .ins 0 l := ⟨_, rfl⟩
  obtain ⟨l', w'⟩ : ∃ l, wheelD V sz = .ins 0 l := ⟨_, rfl⟩
  rw [w, w'] at e ⊢
  show (if (decide (0 = 0) && (kindOf (.ins 0 l')).isSome) = true then (match m_Wheel___eq__ [.ins 0 l, .ins 0 l'] with
    | some (.ok (.bl r), []) => some (D.bl (r ^^ neg))
    | _ => none) else none) = _
  rw [e]
  rfl
theorem cmpW_list (W : WM) (sz : Nat) (xs : List D) : fCmpO 0 m_Wheel___eq__ false (wheelD W sz) (.lst xs) = some (.bl false) := by
  have e := wheel_eq_list W sz xs
  obtain ⟨l, w⟩ : ∃ l, wheelD W sz = .ins 0 l := ⟨_, rfl⟩
  rw [w] at e ⊢
  show (if (decide (0 = 0) && (kindOf (.lst xs)).isSome) = true then (match m_Wheel___eq__ [.ins 0 l, .lst xs] with
    | some (.ok (.bl r), []) => some (D.bl (r ^^ false))
    | _ => none) else none) = _
  rw [e]
  rfl
theorem deqs_strL : ∀ a b : List (List Nat), deqs (strL a) (strL b) = decide (a = b)
  | [], [] => rfl
  | [], _ :: _ => by simp [strL, deqs]
  | _ :: _, [] => by simp [strL, deqs]
  | x :: a, y :: b => by
    have ih := deqs_strL a b
    unfold strL at ih ⊢
    rw [List.map_cons, List.map_cons]
    show (deq (.str x) (.str y) && deqs (a.map D.str) (b.map D.str)) = _
    rw [ih]
    have : deq (.str x) (.str y) = decide (x = y) := by
      rw [Bool.eq_iff_iff]; simp [deq]
    rw [this, Bool.eq_iff_iff]
    simp
theorem deqs_intL : ∀ a b : List Nat, deqs (intL a) (intL b) = decide (a = b)
  | [], [] => rfl
  | [], _ :: _ => by simp [intL, deqs]
  | _ :: _, [] => by simp [intL, deqs]
  | x :: a, y :: b => by
    have ih := deqs_intL a b
    unfold intL at ih ⊢
    rw [List.map_cons, List.map_cons]
    show (deq (.int x) (.int y) && deqs (a.map fun n : Nat => D.int (n : Int)) (b.map fun n : Nat => D.int (n : Int))) = _
    rw [ih]
    have : deq (.int (x : Int)) (.int (y : Int)) = decide (x = y) := by
      rw [Bool.eq_iff_iff]; simp [deq]; omega
    rw [this, Bool.eq_iff_iff]
    simp
theorem okD_strL (n : Nat) (a : List (List Nat)) : okD (n + 2) (.lst (strL a)) = true := by
  unfold okD strL
  rw [List.all_map, List.all_eq_true]
  intro x _
  rfl
theorem okD_intL (n : Nat) (a : List Nat) : okD (n + 2) (.lst (intL a)) = true := by
  unfold okD intL
  rw [List.all_map, List.all_eq_true]
  intro x _
  rfl
theorem oEq_strL (a b : List (List Nat)) : oEq (.lst (strL a)) (.lst (strL b)) = some (.bl (decide (a = b))) := by
  unfold oEq
  rw [okD_strL 58, okD_strL 58]
  have : deq (.lst (strL a)) (.lst (strL b)) = deqs (strL a) (strL b) := by simp [deq]
  rw [this, deqs_strL]
  rfl
theorem deq_opt (a b : Option Nat) : deq (optN a) (optN b) = decide (a = b) := by
  cases a <;> cases b <;> simp [optN, deq]
  rw [Bool.eq_iff_iff]; simp; omega
theorem okD_opt (n : Nat) (a : Option Nat) : okD (n + 1) (optN a) = true := by cases a <;> rfl
theorem oEq_encW (W V : WM) : oEq (encW W) (encW V) = some (.bl (decide (W = V))) := by
  have o : ∀ W : WM, okD 60 (encW W) = true := fun W => by
    show (okD 59 (.lst (strL W.tr)) && (okD 59 (.lst (intL W.sh)) && (okD 59 (optN W.wo) && true))) = true
    rw [okD_strL 57, okD_intL 57, okD_opt 58]
    rfl
  unfold oEq
  rw [o, o]
  have d : deq (encW W) (encW V) = decide (W = V) := by
    show (deqs (strL W.tr) (strL V.tr) && (deqs (intL W.sh) (intL V.sh) && (deq (optN W.wo) (optN V.wo) && deqs [] []))) = _
    rw [deqs_strL, deqs_intL, deq_opt, Bool.eq_iff_iff]
    simp only [Bool.and_eq_true, decide_eq_true_eq]
    constructor
    · rintro ⟨h1, h2, h3, _⟩
      cases W; cases V
      simp only at h1 h2 h3
      rw [h1, h2, h3]
    · rintro rfl
      exact ⟨rfl, rfl, rfl, by simp [deqs]⟩
  rw [d]
  rfl
end DS
namespace DS
local macro_rules | `(tactic| decreasing_trivial) => `(tactic| simp only [ev_runD, ev_fin_nx, ev_fin_rt, ev_fin_ex, ev_outs_nil, ev_outs_pin, ev_outs_non, ev_outs_bl, ev_outs_int, ev_outs_str, ev_outs_tup, ev_outs_lst, ev_outs_dic, ev_outs_ins, ev_startD, ev_seqS, ev_nxS, ev_bkS, ev_ctS, ev_retN, ev_bS, ev_dropS, ev_retS, ev_retO, ev_ifS, ev_setS, ev_setO, ev_toS, ev_putS, ev_freeSl, np_none, np_own, np_pin, np_non, np_bl, np_int, np_str, np_tup, np_lst, np_dic, np_ins, sh_non, sh_bl, sh_int, sh_str, sh_tup, sh_lst, sh_dic, sh_ins, sh_own, sh_pin, ev_lift, ev_liftN, ev_bE, ev_bB, ev_bA, ev_cB, ev_cBB, ev_retB, ev_dVar, ev_dC, ev_dOp, ev_dUn, ev_toB, ev_truB, ev_notB, ev_andB, ev_orB, ev_andV, ev_orV, ev_notV, ev_ifV, ev_chainV, ev_isNonV, ev_notNonV, ev_aNil, ev_aCons, ev_aStar, ev_shs_nil, ev_shs, shs_app, ev_bL, ev_dTup, ev_dLst, ev_dCall, ev_dCallN, ev_dCallNO, ev_dFrz, frz_lst, frz_dic, frz_ins, ev_dVarF, ev_retV, ev_asgS, ev_gmName, ev_gmTup, ev_gmNil, ev_gmCons, ev_forS, ev_liftI, ev_bIE, ev_bIA, ev_iSeq, ev_seq_lst, ev_seq_tup, ev_seq_str, ev_items_lst, ev_items_tup, ev_iRange1, ev_iRange2, ev_dSlice, ev_optN, ev_optS, ev_altE, ev_isiD, ev_isiT, kd_non, kd_bl, kd_int, kd_str, kd_tup, kd_lst, kd_dic, kd_ins, tab_bb, tab_bo, tab_ob, tab_oo, cd0, cd1, cd2, cd3, cd4, cd5, cd6, tru_non, tru_bl, tru_int, tru_str, tru_lst, tru_tup, len_str, len_lst, len_tup, o_sub, o_lt, o_le, o_gt, o_ge, o_mod, o_div, o_neg, o_addI, o_addS, o_addL, o_addT, o_isB, o_notB, o_eqI, o_neI, o_eqS, o_neS, o_eqB, o_neB, o_eqNI, o_eqIN, o_inS, o_ixL, o_ixT, o_ixS, atD_0, atD_1, atD_2, atD_3, atD_4, listA_lst, listA_tup, fInt_int, ev_slIns, ev_dFldS, ev_fldS, ev_slInsPut, putFD_nil, putFD_cons, ev_oFld, ev_slLst, ev_slPut, ev_dIxS, ev_lenS, ev_appS, ev_stoS, ev_dMethS, ev_dMethSO, ev_onS, ev_callS0, ev_onC, ev_isC, ev_callM, ev_callMO, ev_dMeth, ev_dMethO, ev_dProp, ev_dMakeA, pxD_nil, pxD_cons, ev_xNil, ev_xCons, ev_xOwn, putXs_nil, putXs_sh, putXs_ow, ev_parX, ev_iEnumAD, o_mulI, o_mulL, ev_needS, ev_dCallS, ev_callS, ev_aSlot, ev_dCallB, ev_callB, lent_nil, lent_sh, lent_sl, scal_bl, ev_starM, ev_take0, ev_take1, ev_drop0, ev_drop1, ev_dCallStar, ev_dMethStar, ev_dMakeN, ev_isk_int, ev_isk_str, ev_keyT, ev_slDic, ev_slPutD, ev_dInS, ev_dPutS, ev_dicOf, ev_dGet2P, ev_aStarVals, ev_clrS, ev_clrT, List.getElem?_cons_zero, List.getElem?_cons_succ, List.getElem?_nil, List.set_cons_zero, List.set_cons_succ, List.set_nil, List.map_cons, List.map_nil, List.cons_append, List.nil_append, List.length_cons, List.length_nil, Option.map_some, Option.map_none, reduceIte, if_true, ite_true, ite_false, if_false, Bool.and_true, Bool.true_and, Bool.and_false, Bool.false_and, Bool.or_true, Bool.true_or, Bool.or_false, Bool.false_or, Bool.not_true, Bool.not_false, Bool.true_eq_false, Bool.false_eq_true, decide_true, decide_false, Nat.reduceAdd, Nat.reduceSub, Nat.reduceMul, Nat.reduceLeDiff, Nat.reduceLT, Nat.reduceEqDiff, Nat.reduceBEq, Int.reduceLT, Int.reduceLE, Int.reduceEq, Int.reduceAdd, Int.reduceSub, Int.reduceBEq, List.reduceReplicate, List.contains_cons, List.contains_nil, List.lookup_cons, Option.isSome_some, Option.isSome_none, beq_self_eq_true, bne_self_eq_false, List.all_cons, List.all_nil, List.any_cons, List.any_nil, Nat.zero_add, List.append_nil, and_true, true_and, and_self, decide_eq_true_eq, Nat.reduceDiv, Int.toNat_natCast, List.getD_cons_zero, List.getD_cons_succ, Int.cast_ofNat_Int, Int.natCast_zero, Nat.le_refl, Nat.reduceBNe, Int.reduceBNe, Bool.and_self, Bool.or_self, not_true_eq_false, not_false_eq_true, ne_eq, reduceCtorEq, *])
/-! ### a rig changed -/
/-! ### a wheel turned -/
/-! ### a rig's look -/
/-! ### numbers -/
end DS
/-! LS40: facts of the data by their names (no need to open them); steps of a walk. -/
namespace DS
/-! a step: the statement's outcome is shown, what follows goes on from it -/
def reprK (c : Nat) (m : List D → Option (R × List D)) (ds : List D) : EM := fun env => match ds with
  | [.ins c' fs] => if c' = c then (match m [.ins c' fs] with
    | some (.ok (.str y), []) => some (.ok (.str y), env)
    | _ => none) else none
  | _ => none
def lenK (c : Nat) (m : List D → Option (R × List D)) (ds : List D) : EM := fun env => match ds with
  | [.ins c' fs] => if c' = c then (match m [.ins c' fs] with
    | some (.ok (.int n), []) => if (geI 0 n && ltI 16777217 n) = true then some (.ok (.int n), env) else none
    | _ => none) else none
  | _ => none
/-! ### facts -/
/-- not by computation, for simp -/
theorem nr {α : Sort _} {a b : α} (h : a = b) : a = b := h
section
variable {env : DEnv}
@[simp] theorem lf_wipe0 : wipeD env [] = env := nr rfl
@[simp] theorem lf_wipe {v : Nat} {vs : List Nat} : wipeD env (v :: vs) = (wipeD env vs).set v none := nr rfl
@[simp] theorem lf_npsh {d : D} (h : d.sh = true) : npin (some d) = true := np_sh h
@[simp] theorem lf_callM {c n : Nat} {m : List D → Option (R × List D)} {x : D} {ds : List D} (h : isC c x = true) : callM c n m x ds env = if decide (ds.length + 1 = n) = true then (match m (x :: ds) with | some (.ok d, []) => if d.sh = true then some (.ok d, env) else none | _ => none) else none := by
  cases x with
  | ins c' fs =>
    have : c' = c := of_decide_eq_true h
    subst this
    rw [ev_callM, decide_eq_true rfl, Bool.true_and] <;> rfl
  | _ => cases h
@[simp] theorem lf_dReprO {c : Nat} {m : List D → Option (R × List D)} {fa : AM} : dReprO c m fa env = match fa env with | some (.ok x, e) => (match shs x with | some ds => reprK c m ds e | none => none) | some (.ex c fs, e) => some (.ex c fs, e) | none => none := ev_bL
@[simp] theorem lf_dLenO {c : Nat} {m : List D → Option (R × List D)} {fa : AM} : dLenO c m fa env = match fa env with | some (.ok x, e) => (match shs x with | some ds => lenK c m ds e | none => none) | some (.ex c fs, e) => some (.ex c fs, e) | none => none := ev_bL
@[simp] theorem lf_reprK {c : Nat} {m : List D → Option (R × List D)} {x : D} (h : isC c x = true) : reprK c m [x] env = match m [x] with | some (.ok (.str y), []) => some (.ok (.str y), env) | _ => none := by
  cases x with
  | ins c' fs =>
    have : c' = c := of_decide_eq_true h
    subst this
    exact if_pos rfl
  | _ => cases h
@[simp] theorem lf_lenK {c : Nat} {m : List D → Option (R × List D)} {x : D} (h : isC c x = true) : lenK c m [x] env = match m [x] with | some (.ok (.int n), []) => if (geI 0 n && ltI 16777217 n) = true then some (.ok (.int n), env) else none | _ => none := by
  cases x with
  | ins c' fs =>
    have : c' = c := of_decide_eq_true h
    subst this
    exact if_pos rfl
  | _ => cases h
@[simp] theorem lf_callMO {c n : Nat} {m : List D → Option (R × List D)} {x : D} {ds : List D} (h : isC c x = true) : callMO c n m x ds env = if decide (ds.length + 1 = n) = true then (match m (x :: ds) with | some (.ok (.own d), []) => some (.ok d, env) | _ => none) else none := by
  cases x with
  | ins c' fs =>
    have : c' = c := of_decide_eq_true h
    subst this
    rw [ev_callMO, decide_eq_true rfl, Bool.true_and] <;> rfl
  | _ => cases h
variable {W : WM} {t : TM} {R : RM} {s : StM} {d : Deed} {r : Rw} {sz : Nat} {x : Int × List Nat} {o : Option Nat}
@[simp] theorem lf_shW : (encW W).sh = true := nr rfl
@[simp] theorem lf_shT : (encT t).sh = true := nr rfl
@[simp] theorem lf_shG : (encRig R).sh = true := nr rfl
@[simp] theorem lf_shD : (encD d).sh = true := encD_sh d
@[simp] theorem lf_shR : (encR r).sh = true := nr rfl
@[simp] theorem lf_shS : (encS s).sh = true := nr rfl
@[simp] theorem lf_shX : (stD x).sh = true := nr rfl
@[simp] theorem lf_shO : (optN o).sh = true := by cases o <;> rfl
@[simp] theorem lf_shw : (wheelD W sz).sh = true := nr rfl
@[simp] theorem lf_sht : (tableD t).sh = true := nr rfl
@[simp] theorem lf_shg : (rigD R sz).sh = true := nr rfl
@[simp] theorem lf_shp : (paceD R).sh = true := nr rfl
@[simp] theorem lf_shs : (startsM W).sh = true := nr rfl
@[simp] theorem lf_kW : kindOf (encW W) = some (.b .tup) := nr rfl
@[simp] theorem lf_kT : kindOf (encT t) = some (.b .tup) := nr rfl
@[simp] theorem lf_kG : kindOf (encRig R) = some (.b .tup) := nr rfl
@[simp] theorem lf_kD : kindOf (encD d) = some (.b .tup) := by cases d <;> rfl
@[simp] theorem lf_kR : kindOf (encR r) = some (.b .tup) := nr rfl
@[simp] theorem lf_kS : kindOf (encS s) = some (.b .tup) := nr rfl
@[simp] theorem lf_kw : kindOf (wheelD W sz) = some (.o 0) := nr rfl
@[simp] theorem lf_kt : kindOf (tableD t) = some (.o 1) := nr rfl
@[simp] theorem lf_kg : kindOf (rigD R sz) = some (.o 2) := nr rfl
@[simp] theorem lf_cw : isC 0 (wheelD W sz) = true := nr rfl
@[simp] theorem lf_ct : isC 1 (tableD t) = true := nr rfl
@[simp] theorem lf_cg : isC 2 (rigD R sz) = true := nr rfl
@[simp] theorem lf_W0 : oIx (encW W) (.int 0) = some (.lst (strL W.tr)) := nr rfl
@[simp] theorem lf_W1 : oIx (encW W) (.int 1) = some (.lst (intL W.sh)) := nr rfl
@[simp] theorem lf_W2 : oIx (encW W) (.int 2) = some (optN W.wo) := nr rfl
@[simp] theorem lf_T0 : oIx (encT t) (.int 0) = some (.int t.many) := nr rfl
@[simp] theorem lf_T1 : oIx (encT t) (.int 1) = some (.lst (rowsL t.rows)) := nr rfl
@[simp] theorem lf_T2 : oIx (encT t) (.int 2) = some (encD t.dfl) := nr rfl
@[simp] theorem lf_G0 : oIx (encRig R) (.int 0) = some (encW R.W) := nr rfl
@[simp] theorem lf_G1 : oIx (encRig R) (.int 1) = some (encT R.t) := nr rfl
@[simp] theorem lf_G2 : oIx (encRig R) (.int 2) = some (.int R.back) := nr rfl
@[simp] theorem lf_G3 : oIx (encRig R) (.int 3) = some (.int R.forth) := nr rfl
@[simp] theorem lf_G4 : oIx (encRig R) (.int 4) = some (.int R.pat) := nr rfl
@[simp] theorem lf_R0 : oIx (encR r) (.int 0) = some (.str r.a) := nr rfl
@[simp] theorem lf_R1 : oIx (encR r) (.int 1) = some (.str r.b) := nr rfl
@[simp] theorem lf_R2 : oIx (encR r) (.int 2) = some (encD r.d) := nr rfl
@[simp] theorem lf_X0 : oIx (stD x) (.int 0) = some (.int x.1) := nr rfl
@[simp] theorem lf_X1 : oIx (stD x) (.int 1) = some (.str x.2) := nr rfl
@[simp] theorem lf_seqS : seqItems (encS s) = some [.int s.cell, .int s.rest, .str s.kept, .str s.pend, .int s.times] := nr rfl
@[simp] theorem lf_Rcut : sliceD none (some 2) (encR r) = some (.tup [.str r.a, .str r.b]) := nr rfl
@[simp] theorem lf_Gcut : sliceD (some 2) none (encRig R) = some (.tup [.int R.back, .int R.forth, .int R.pat]) := nr rfl
@[simp] theorem lf_w0 : oFld [0] 0 (wheelD W sz) = some (.lst (strL W.tr)) := nr rfl
@[simp] theorem lf_w1 : oFld [0] 1 (wheelD W sz) = some (.lst (intL W.sh)) := nr rfl
@[simp] theorem lf_w2 : oFld [0] 2 (wheelD W sz) = some (optN W.wo) := nr rfl
@[simp] theorem lf_w3 : oFld [0] 3 (wheelD W sz) = some (.lst (cellsD W sz)) := nr rfl
@[simp] theorem lf_t4 : oFld [1] 4 (tableD t) = some (.int t.many) := nr rfl
@[simp] theorem lf_t5 : oFld [1] 5 (tableD t) = some (.dic true (t.rows.map kvR)) := nr rfl
@[simp] theorem lf_t6 : oFld [1] 6 (tableD t) = some (encD t.dfl) := nr rfl
@[simp] theorem lf_g7 : oFld [2] 7 (rigD R sz) = some (wheelD R.W sz) := nr rfl
@[simp] theorem lf_g8 : oFld [2] 8 (rigD R sz) = some (tableD R.t) := nr rfl
@[simp] theorem lf_g9 : oFld [2] 9 (rigD R sz) = some (paceD R) := nr rfl
@[simp] theorem lf_seqp : seqItems (paceD R) = some [.int R.back, .int R.forth, .int R.pat] := nr rfl
@[simp] theorem lf_p0 : oIx (paceD R) (.int 0) = some (.int R.back) := nr rfl
@[simp] theorem lf_p1 : oIx (paceD R) (.int 1) = some (.int R.forth) := nr rfl
@[simp] theorem lf_p2 : oIx (paceD R) (.int 2) = some (.int R.pat) := nr rfl
@[simp] theorem lf_oW {ds : List D} {q : Option D} : outsOf (encW W :: ds) (q :: env) = outsOf ds env := nr rfl
@[simp] theorem lf_oT {ds : List D} {q : Option D} : outsOf (encT t :: ds) (q :: env) = outsOf ds env := nr rfl
@[simp] theorem lf_oG {ds : List D} {q : Option D} : outsOf (encRig R :: ds) (q :: env) = outsOf ds env := nr rfl
@[simp] theorem lf_oD {ds : List D} {q : Option D} : outsOf (encD d :: ds) (q :: env) = outsOf ds env := outs_sh (encD_sh d)
@[simp] theorem lf_oR {ds : List D} {q : Option D} : outsOf (encR r :: ds) (q :: env) = outsOf ds env := nr rfl
@[simp] theorem lf_oS {ds : List D} {q : Option D} : outsOf (encS s :: ds) (q :: env) = outsOf ds env := nr rfl
@[simp] theorem lf_oX {ds : List D} {q : Option D} : outsOf (stD x :: ds) (q :: env) = outsOf ds env := nr rfl
@[simp] theorem lf_ow {ds : List D} {q : Option D} : outsOf (wheelD W sz :: ds) (q :: env) = outsOf ds env := nr rfl
@[simp] theorem lf_ot {ds : List D} {q : Option D} : outsOf (tableD t :: ds) (q :: env) = outsOf ds env := nr rfl
@[simp] theorem lf_og {ds : List D} {q : Option D} : outsOf (rigD R sz :: ds) (q :: env) = outsOf ds env := nr rfl
@[simp] theorem lf_frzw : frzD (wheelD W sz) = true := by
  show ([(0, .lst (strL W.tr)), (1, .lst (intL W.sh)), (2, optN W.wo), (3, .lst (cellsD W sz))] : List (Nat × D)).all (fun p => p.2.sh) = true
  exact wheel_sh W sz
@[simp] theorem lf_frzt : frzD (tableD t) = true := by
  show ([(4, .int t.many), (5, .dic true (t.rows.map kvR)), (6, encD t.dfl)] : List (Nat × D)).all (fun p => p.2.sh) = true
  simp [encD_sh]
@[simp] theorem lf_frzg : frzD (rigD R sz) = true := nr rfl
@[simp] theorem lf_lenR (l : List Rw) : (rowsL l).length = l.length := rowsL_len l
@[simp] theorem lf_lenS (l : List (List Nat)) : (strL l).length = l.length := by simp [strL]
@[simp] theorem lf_dMethKw {c nk : Nat} {kn : List (List Nat)} {m : List D → Option (DS.R × List D)} {fe : EM} {fk : AM} : dMethKw c nk kn m fe fk env = match fe env with | some (.ok x, e) => onC c x (bL fk fun zs => callKw c nk kn m x zs) e | some (.ex c fs, e) => some (.ex c fs, e) | none => none := nr rfl
@[simp] theorem lf_dMakeD {c nk n2 nv : Nat} {ix : List Nat} {md : List D} {m : List D → Option (DS.R × List D)} {fa fk : AM} : dMakeD c nk n2 nv ix md m fa fk env = bL fa (fun ds => bL fk fun zs => fun env => if (decide (ds.length + 1 = nv) && (decide (zs.length = nk) && decide ((pxD ix (ds ++ (zs ++ md))).length = n2))) = true then (match m (.pin (.ins c []) :: pxD ix (ds ++ (zs ++ md))) with
  | some (.ok .non, [s]) => some (.ok s, env)
  | _ => none) else none) env := rfl
@[simp] theorem lf_callKw {c nk : Nat} {kn : List (List Nat)} {m : List D → Option (DS.R × List D)} {x : D} {zs : List D} (h : isC c x = true) : callKw c nk kn m x zs env = if decide (zs.length = nk) = true then (match m [x, kwDic kn zs] with | some (.ok d, []) => if d.sh = true then some (.ok d, env) else none | _ => none) else none := by
  cases x with
  | ins c' fs =>
    have e : c' = c := of_decide_eq_true h
    subst e
    show (if (decide (c' = c') && decide (zs.length = nk)) = true then _ else _) = _
    rw [decide_eq_true rfl, Bool.true_and] <;> rfl
  | _ => cases h
@[simp] theorem lf_kwDic {kn : List (List Nat)} {zs : List D} : kwDic kn zs = .dic false ((kn.zip zs).map fun p => (.str p.1, p.2)) := nr rfl
@[simp] theorem lf_zipC {a : List Nat} {b : D} {l : List (List Nat)} {m : List D} : (a :: l).zip (b :: m) = (a, b) :: l.zip m := nr rfl
@[simp] theorem lf_zipN {m : List D} : ([] : List (List Nat)).zip m = [] := nr rfl
end
end DS
namespace DS
local macro_rules | `(tactic| simp! only [$xs,*]) => `(tactic| simp only [ev_runD, ev_fin_nx, ev_fin_rt, ev_fin_ex, ev_outs_nil, ev_outs_pin, ev_outs_non, ev_outs_bl, ev_outs_int, ev_outs_str, ev_outs_tup, ev_outs_lst, ev_outs_dic, ev_outs_ins, ev_startD, ev_seqS, ev_nxS, ev_bkS, ev_ctS, ev_retN, ev_bS, ev_dropS, ev_retS, ev_retO, ev_ifS, ev_setS, ev_setO, ev_toS, ev_putS, ev_freeSl, np_none, np_own, np_pin, np_non, np_bl, np_int, np_str, np_tup, np_lst, np_dic, np_ins, sh_non, sh_bl, sh_int, sh_str, sh_tup, sh_lst, sh_dic, sh_ins, sh_own, sh_pin, ev_lift, ev_liftN, ev_bE, ev_bB, ev_bA, ev_cB, ev_cBB, ev_retB, ev_dVar, ev_dC, ev_dOp, ev_dUn, ev_toB, ev_truB, ev_notB, ev_andB, ev_orB, ev_andV, ev_orV, ev_notV, ev_ifV, ev_chainV, ev_isNonV, ev_notNonV, ev_aNil, ev_aCons, ev_aStar, ev_shs_nil, ev_shs, shs_app, ev_bL, ev_dTup, ev_dLst, ev_dCall, ev_dCallN, ev_dCallNO, ev_dFrz, frz_lst, frz_dic, frz_ins, ev_dVarF, ev_retV, ev_asgS, ev_gmName, ev_gmTup, ev_gmNil, ev_gmCons, ev_forS, ev_liftI, ev_bIE, ev_bIA, ev_iSeq, ev_seq_lst, ev_seq_tup, ev_seq_str, ev_items_lst, ev_items_tup, ev_iRange1, ev_iRange2, ev_dSlice, ev_optN, ev_optS, ev_altE, ev_isiD, ev_isiT, kd_non, kd_bl, kd_int, kd_str, kd_tup, kd_lst, kd_dic, kd_ins, tab_bb, tab_bo, tab_ob, tab_oo, cd0, cd1, cd2, cd3, cd4, cd5, cd6, tru_non, tru_bl, tru_int, tru_str, tru_lst, tru_tup, len_str, len_lst, len_tup, o_sub, o_lt, o_le, o_gt, o_ge, o_mod, o_div, o_neg, o_addI, o_addS, o_addL, o_addT, o_isB, o_notB, o_eqI, o_neI, o_eqS, o_neS, o_eqB, o_neB, o_eqNI, o_eqIN, o_inS, o_ixL, o_ixT, o_ixS, atD_0, atD_1, atD_2, atD_3, atD_4, listA_lst, listA_tup, fInt_int, ev_slIns, ev_dFldS, ev_fldS, ev_slInsPut, putFD_nil, putFD_cons, ev_oFld, ev_slLst, ev_slPut, ev_dIxS, ev_lenS, ev_appS, ev_stoS, ev_dMethS, ev_dMethSO, ev_onS, ev_callS0, ev_onC, ev_isC, ev_callM, ev_callMO, ev_dMeth, ev_dMethO, ev_dProp, ev_dMakeA, pxD_nil, pxD_cons, ev_xNil, ev_xCons, ev_xOwn, putXs_nil, putXs_sh, putXs_ow, ev_parX, ev_iEnumAD, o_mulI, o_mulL, ev_needS, ev_dCallS, ev_callS, ev_aSlot, ev_dCallB, ev_callB, lent_nil, lent_sh, lent_sl, scal_bl, ev_starM, ev_take0, ev_take1, ev_drop0, ev_drop1, ev_dCallStar, ev_dMethStar, ev_dMakeN, ev_isk_int, ev_isk_str, ev_keyT, ev_slDic, ev_slPutD, ev_dInS, ev_dPutS, ev_dicOf, ev_dGet2P, ev_aStarVals, ev_clrS, ev_clrT, List.getElem?_cons_zero, List.getElem?_cons_succ, List.getElem?_nil, List.set_cons_zero, List.set_cons_succ, List.set_nil, List.map_cons, List.map_nil, List.cons_append, List.nil_append, List.length_cons, List.length_nil, Option.map_some, Option.map_none, reduceIte, if_true, ite_true, ite_false, if_false, Bool.and_true, Bool.true_and, Bool.and_false, Bool.false_and, Bool.or_true, Bool.true_or, Bool.or_false, Bool.false_or, Bool.not_true, Bool.not_false, Bool.true_eq_false, Bool.false_eq_true, decide_true, decide_false, Nat.reduceAdd, Nat.reduceSub, Nat.reduceMul, Nat.reduceLeDiff, Nat.reduceLT, Nat.reduceEqDiff, Nat.reduceBEq, Int.reduceLT, Int.reduceLE, Int.reduceEq, Int.reduceAdd, Int.reduceSub, Int.reduceBEq, List.reduceReplicate, List.contains_cons, List.contains_nil, List.lookup_cons, Option.isSome_some, Option.isSome_none, beq_self_eq_true, bne_self_eq_false, List.all_cons, List.all_nil, List.any_cons, List.any_nil, Nat.zero_add, List.append_nil, and_true, true_and, and_self, decide_eq_true_eq, Nat.reduceDiv, Int.toNat_natCast, List.getD_cons_zero, List.getD_cons_succ, Int.cast_ofNat_Int, Int.natCast_zero, Nat.le_refl, Nat.reduceBNe, Int.reduceBNe, Bool.and_self, Bool.or_self, not_true_eq_false, not_false_eq_true, ne_eq, reduceCtorEq, lf_wipe0, lf_wipe, lf_npsh, lf_callM, lf_dReprO, lf_dLenO, lf_reprK, lf_lenK, lf_callMO, lf_shW, lf_shT, lf_shG, lf_shD, lf_shR, lf_shS, lf_shX, lf_shO, lf_shw, lf_sht, lf_shg, lf_shp, lf_shs, lf_kW, lf_kT, lf_kG, lf_kD, lf_kR, lf_kS, lf_kw, lf_kt, lf_kg, lf_cw, lf_ct, lf_cg, lf_W0, lf_W1, lf_W2, lf_T0, lf_T1, lf_T2, lf_G0, lf_G1, lf_G2, lf_G3, lf_G4, lf_R0, lf_R1, lf_R2, lf_X0, lf_X1, lf_seqS, lf_Rcut, lf_Gcut, lf_w0, lf_w1, lf_w2, lf_w3, lf_t4, lf_t5, lf_t6, lf_g7, lf_g8, lf_g9, lf_seqp, lf_p0, lf_p1, lf_p2, lf_oW, lf_oT, lf_oG, lf_oD, lf_oR, lf_oS, lf_oX, lf_ow, lf_ot, lf_og, lf_frzw, lf_frzt, lf_frzg, lf_lenR, lf_lenS, lf_dMethKw, lf_dMakeD, lf_callKw, lf_kwDic, lf_zipC, lf_zipN, Option.some.injEq, Prod.mk.injEq, exists_eq_left', exists_eq_left, false_and, exists_false, Out.rt.injEq, and_assoc, exists_and_left, exists_eq', $xs,*])
/-! ### tables with a row put in -/
/-! every text of marks is told by allM -/
/-! ### the program's -/
/-! ### the law's -/
/-! ### what depends on the deeds alone -/
end DS
namespace DS
/-! ### rigs whose tables have the same rows in another order play alike -/
/-! ### rigs changed by settings -/
end DS
namespace DL
open PySem PySem.Spec PyProof.Rows L2 DS
def TT : Tb := ⟨CNL, [0], FNL, fnl_nd⟩
/-! what the defs do -/
def t0 : SM := (retS (chain3 (fCmpO 0 m_Wheel___eq__ false) (fCmpO 0 m_Wheel___eq__ true) (fCmpO 0 m_Wheel___eq__ false) (dFrz (dMakeA 0 1 2 (fun zs => pxD [1, 0] (zs ++ [.non])) m_Wheel___init__ (aCons (dC (.str [48, 49])) aNil) (aCons (dC (.int 0)) aNil))) (dFrz (dMakeA 0 2 2 (fun zs => pxD [0, 1] (zs ++ [])) m_Wheel___init__ (aCons (dC (.str [48, 49])) aNil) (aCons (dLst (aCons (dC (.int 0)) aNil)) (aCons (dC (.int 0)) aNil)))) (dFrz (dMakeA 0 0 2 (fun zs => pxD [0, 1] (zs ++ [.non, .non])) m_Wheel___init__ (aCons (dC (.str [48, 49])) aNil) aNil)) (dFrz (dMakeA 0 2 2 (fun zs => pxD [1, 0] (zs ++ [])) m_Wheel___init__ (aCons (dC (.str [48, 49])) aNil) (aCons (dC .non) (aCons (dC .non) aNil))))))
def t1 : SM := (retS (dC (.bl false)))
def t2 : SM := (ifS (orB (notB (truB (dCallN 2 (m_same 12) [] (aCons (dOp (fCmpO 0 m_Wheel___eq__ false) (dCallN 1 m__law_plainly [] (aCons (dOp oIx (dVar 5) (dC (.int 0))) aNil)) (dVar 7)) (aCons (dOp oEq (dVar 12) (dVar 5)) aNil))))) (toB (dOp oNe (dC (.int 12)) (dC (.int 12))))) t1 nxS)
def t3 : SM := (retS (dC (.bl false)))
def t4 : SM := (ifS (notB (truB (dCallN 2 (m_same 12) [] (aCons (dVar 13) (aCons (dLst (aCons (dC (.bl true)) (aCons (dOp oEq (dOp oIx (dVar 10) (dC (.int 0))) (dOp oIx (dVar 5) (dC (.int 0)))) (aCons (dC (.bl false)) (aCons (dC (.bl false)) aNil))))) aNil))))) t3 nxS)
def t5 : SM := (setS 13 (dLst (aCons (dOp (fCmpO 0 m_Wheel___eq__ false) (dVar 7) (dCallN 1 m__law_wheel [] (aCons (dVar 5) aNil))) (aCons (dOp (fCmpO 0 m_Wheel___eq__ false) (dVar 7) (dCallN 1 m__law_wheel [] (aCons (dVar 10) aNil))) (aCons (dOp (fCmpO 0 m_Wheel___eq__ false) (dVar 7) (dCallN 1 m__law_wheel [] (aCons (dVar 11) aNil))) (aCons (dOp (fCmpO 0 m_Wheel___eq__ false) (dVar 7) (dOp oIx (dVar 5) (dC (.int 0)))) aNil))))))
def t6 : SM := (setS 12 (dTup (aCons (dOp oIx (dVar 5) (dC (.int 0))) (aCons (dOp oMulA (dLst (aCons (dC (.int 0)) aNil)) (dVar 4)) (aCons (dC .non) aNil)))))
def t7 : SM := (setS 11 (dTup (aCons (dOp oIx (dVar 5) (dC (.int 0))) (aCons (dOp oAdd (dOp oAdd (dSlice (dOp oIx (dVar 5) (dC (.int 1))) none (some (dVar 9))) (dLst (aCons (dOp oMod (dCall fInt (aCons (dOp oAdd (dOp oIx (dOp oIx (dVar 5) (dC (.int 1))) (dVar 9)) (dC (.int 1))) aNil)) (dC (.int 3))) aNil))) (dSlice (dOp oIx (dVar 5) (dC (.int 1))) (some (dOp oAdd (dVar 9) (dC (.int 1)))) none)) (aCons (dOp oIx (dVar 5) (dC (.int 2))) aNil)))))
def t8 : SM := (setS 10 (dTup (aCons (dOp oAdd (dOp oAdd (dSlice (dOp oIx (dVar 5) (dC (.int 0))) none (some (dVar 9))) (dLst (aCons (needS 1 (dCallS 2 m_marks [] 1 (aCons (dVar 3) aNil))) aNil))) (dSlice (dOp oIx (dVar 5) (dC (.int 0))) (some (dOp oAdd (dVar 9) (dC (.int 1)))) none)) (aCons (dOp oIx (dVar 5) (dC (.int 1))) (aCons (dOp oIx (dVar 5) (dC (.int 2))) aNil)))))
def t9 : SM := (setS 9 (needS 1 (dCallS 2 m_draw [] 1 (aCons (dVar 4) aNil))))
def t10 : SM := (clrT (dMethO 0 1 m_Wheel_shivers (dVar 7) aNil))
def t11 : SM := (appT (dMethO 0 1 m_Wheel_tracks (dVar 7) aNil) (dC (.str [48, 49])))
def t12 : SM := (retS (dC (.bl false)))
def t13 : SM := (ifS (notB (truB (dCallN 2 (m_same 12) [] (aCons (dVar 13) (aCons (dOp oAdd (dVar 14) (dLst (aCons (dVar 15) aNil))) aNil))))) t12 nxS)
def t14 : SM := (setS 15 (dOp oAdd (dOp oAdd (dOp oAdd (dOp oAdd (dC (.str [87, 104, 101, 101, 108, 40])) (dCall fStr (aCons (dVar 3) aNil))) (dC (.str [32, 99, 101, 108, 108, 115, 44, 32]))) (dCall fStr (aCons (dVar 4) aNil))) (dC (.str [32, 116, 114, 97, 99, 107, 115, 41]))))
def t15 : SM := (setS 14 (dLst (aCons (dVar 3) (aCons (dVar 4) (aCons (dOp oIx (dVar 5) (dC (.int 2))) (aCons (dOp oIx (dVar 5) (dC (.int 0))) (aCons (dOp oIx (dVar 5) (dC (.int 1))) (aCons (dCallN 1 m__law_wheel_text [] (aCons (dVar 5) aNil)) aNil))))))))
def t16 : SM := (setS 13 (dLst (aCons (dProp 0 m_Wheel_size (dVar 7)) (aCons (dProp 0 m_Wheel_many (dVar 7)) (aCons (dProp 0 m_Wheel_worn (dVar 7)) (aCons (dFrz (dMethO 0 1 m_Wheel_tracks (dVar 7) aNil)) (aCons (dFrz (dMethO 0 1 m_Wheel_shivers (dVar 7) aNil)) (aCons (dProp 0 m_Wheel_text (dVar 7)) (aCons (dReprO 0 m_Wheel___repr__ (aCons (dVar 7) aNil)) aNil)))))))))
def t17 : SM := (forS (iRange1 (aCons (dC (.int 2)) aNil)) (gmName 8) (seqS t16
  (seqS t15
  (seqS t14
  (seqS t13
  (seqS t11
  t10))))))
def t18 : SM := (appS 6 (dC (.int 9)))
def t19 : SM := (setS 7 (dCallT m__law_wheel_p 6 (dOp oIx (dVar 5) (dC (.int 0))) (dOp oIx (dVar 5) (dC (.int 2)))))
def t20 : SM := (setO 6 (dCall fListA (aCons (dOp oIx (dVar 5) (dC (.int 1))) aNil)))
def t21 : SM := (setS 5 (needS 1 (dCallS 3 m__law_drawn_wheel [] 1 (aCons (dVar 3) (aCons (dVar 4) aNil)))))
def t22 : SM := (parX [3, 4] (xCons (dOp oAdd (dC (.int 2)) (needS 1 (dCallS 2 m_draw [] 1 (aCons (dC (.int 11)) aNil)))) (xCons (dOp oAdd (dC (.int 1)) (needS 1 (dCallS 2 m_draw [] 1 (aCons (dC (.int 3)) aNil)))) xNil)))
def t23 : SM := (forS (iRange1 (aCons (dC (.int 4)) aNil)) (gmName 2) (seqS t22
  (seqS t21
  (seqS t20
  (seqS t19
  (seqS t18
  (seqS t17
  (seqS t9
  (seqS t8
  (seqS t7
  (seqS t6
  (seqS t5
  (seqS t4
  t2)))))))))))))
def sm_law : SM := (seqS t23
  t0)
/-! the text -/
theorem bt_all : bootBuiltins "all" = some (.builtin "all") := by kernel_rfl
theorem bt_bool : bootBuiltins "bool" = some (.type "bool") := by kernel_rfl
theorem bt_int : bootBuiltins "int" = some (.type "int") := by kernel_rfl
theorem bt_isinstance : bootBuiltins "isinstance" = some (.builtin "isinstance") := by kernel_rfl
theorem bt_len : bootBuiltins "len" = some (.builtin "len") := by kernel_rfl
theorem bt_list : bootBuiltins "list" = some (.type "list") := by kernel_rfl
theorem bt_repr : bootBuiltins "repr" = some (.builtin "repr") := by kernel_rfl
theorem bt_str : bootBuiltins "str" = some (.type "str") := by kernel_rfl
theorem bt_tuple : bootBuiltins "tuple" = some (.type "tuple") := by kernel_rfl
theorem len0 : ∀ xs env env', gmNil xs env = some env' → xs.length = 0 := by intro xs env env' h; cases xs with | nil => rfl | cons a b => cases h
theorem lenS {f : GM} {h : List D → DEnv → Option DEnv} {n : Nat} (H : ∀ xs env env', h xs env = some env' → xs.length = n) : ∀ xs env env', gmCons f h xs env = some env' → xs.length = n + 1 := by
  intro xs env env' e
  cases xs with
  | nil => cases e
  | cons a b =>
    have e : (match f a env with | some e => h b e | none => none) = some env' := e
    cases q : f a env with
    | none => rw [q] at e; cases e
    | some e1 => rw [q] at e; rw [List.length_cons, H b e1 env' e]
theorem len2 {f0 f1 : GM} : ∀ xs env env', (gmCons f0 (gmCons f1 gmNil)) xs env = some env' → xs.length = 2 := (lenS (lenS len0))
theorem fd_same {K : PySem.W.Frag} {x q x2 q2 : Str} {a a2 : Arguments} {b b2 : List Stmt} {s s2 : Scope} {d d2 : List V} {k k2 : List (Str × V)} {f : Addr} {fd fd2 : FuncData} (F : FunD K x q a b s d k f fd) (F2 : FunD K x2 q2 a2 b2 s2 d2 k2 f fd2) : fd = fd2 := by
  obtain ⟨_, _, _, _, _, _, _, _, _, _, _, l, _⟩ := F.ex
  obtain ⟨_, _, _, _, _, _, _, _, _, _, _, l2, _⟩ := F2.ex
  rw [l] at l2
  simp only [Option.some.injEq, Obj.mk.injEq, Data.func.injEq] at l2
  exact l2.2.2.1
section
variable {K : PySem.W.Frag} {mg : Str → Option Value}
structure FX (K : PySem.W.Frag) (mg : Str → Option Value) : Prop where
  d__law_source : Fd K mg "_law_source" (top 26) ["_law_script"]
  d_Wheel_text : Pd K "Wheel" "text" "Wheel.text" (inClass (top 24) 6) ["self"]
  d_Wheel___eq__ : Md K "Wheel" "__eq__" "Wheel.__eq__" (inClass (top 24) 14) ["self", "other"]
  d__law_draw : Fd K mg "_law_draw" (top 27) ["_law_src", "_law_many7"]
  d__law_of : Fd K mg "_law_of" (top 28) ["_law_src", "_law_things7"]
  d__law_marks : Fd K mg "_law_marks" (top 29) ["_law_src", "_law_many7"]
  d__law_turned : Fd K mg "_law_turned" (top 33) ["_law_track", "_law_by"]
  d__law_drawn_wheel : Fd K mg "_law_drawn_wheel" (top 32) ["_law_src", "_law_size7", "_law_many"]
  d_is_marks : Fd K mg "is_marks" (top 16) ["value", "least", "most"]
  d_is_track : Fd K mg "is_track" (top 17) ["value"]
  d_need_tracks : Fd K mg "need_tracks" (top 22) ["tracks"]
  d_is_list : Fd K mg "is_list" (top 15) ["value"]
  d_is_number : Fd K mg "is_number" (top 14) ["value", "least", "most"]
  d_need_shivers : Fd K mg "need_shivers" (top 23) ["many", "shivers"]
  d_joined : Fd K mg "joined" (top 18) ["options"]
  d_Wheel_sights_at : Md K "Wheel" "sights_at" "Wheel.sights_at" (inClass (top 24) 2) ["self", "cell"]
  d_Wheel___init__ : Id K mg "Wheel" "Wheel.__init__" (inClass (top 24) 1) [("shivers", .non), ("worn", .non)] []
  d__law_wheel : Fd K mg "_law_wheel" (top 31) ["_law_w"]
  d__law_same : Fd K mg "_law_same" (top 30) ["_law_found", "_law_due"]
  d_Wheel_size : Pd K "Wheel" "size" "Wheel.size" (inClass (top 24) 3) ["self"]
  d_Wheel_many : Pd K "Wheel" "many" "Wheel.many" (inClass (top 24) 4) ["self"]
  d_Wheel_worn : Pd K "Wheel" "worn" "Wheel.worn" (inClass (top 24) 5) ["self"]
  d_Wheel_tracks : Md K "Wheel" "tracks" "Wheel.tracks" (inClass (top 24) 7) ["self"]
  d_Wheel_shivers : Md K "Wheel" "shivers" "Wheel.shivers" (inClass (top 24) 8) ["self"]
  d_Wheel___repr__ : Md K "Wheel" "__repr__" "Wheel.__repr__" (inClass (top 24) 15) ["self"]
  d__law_wheel_text : Fd K mg "_law_wheel_text" (top 34) ["_law_w"]
  d__law_plainly : Fd K mg "_law_plainly" (top 35) ["_law_tracks7"]
  d_law : Fd K mg "law" (top 36) ["_law_script"]
  b_all : mg "all" = none
  b_bool : mg "bool" = none
  b_enumerate : mg "enumerate" = none
  b_int : mg "int" = none
  b_isinstance : mg "isinstance" = none
  b_len : mg "len" = none
  b_list : mg "list" = none
  b_range : mg "range" = none
  b_repr : mg "repr" = none
  b_str : mg "str" = none
  b_tuple : mg "tuple" = none
  b_zip : mg "zip" = none
  i_MARKS : ∃ t, mg "MARKS" = some (.str "01" t)
  i_MOST_CELLS : ∃ t, mg "MOST_CELLS" = some (.int 12 t)
  i_MOST_SHIVER : ∃ t, mg "MOST_SHIVER" = some (.int 2 t)
  i_MOST_TRACKS : ∃ t, mg "MOST_TRACKS" = some (.int 3 t)
  g_Wheel : mg "Wheel" = some (.ref (He.ga K "Wheel"))
  c_Wheel : InsOk K (He.ga K "Wheel")
  na_Wheel_by_cell : NoAttr K (He.ga K "Wheel") "by_cell"
  na_Wheel_own_shivers : NoAttr K (He.ga K "Wheel") "own_shivers"
  na_Wheel_own_tracks : NoAttr K (He.ga K "Wheel") "own_tracks"
  na_Wheel_own_worn : NoAttr K (He.ga K "Wheel") "own_worn"
  kt_bool : kitTs K CNL [0] "bool" = true
  kt_int : kitTs K CNL [0] "int" = true
  kt_list : kitTs K CNL [0] "list" = true
  kt_str : kitTs K CNL [0] "str" = true
  kt_tuple : kitTs K CNL [0] "tuple" = true
  kb_Wheel : kitBs K "Wheel" = true
  kc_Wheel : kitCs K CNL [0] "Wheel" [0] = true
  ef_Wheel : EqF K (He.ga K "Wheel") (He.ma K (He.ga K "Wheel") "__eq__")
  nf_Wheel : NfOk TT K "Wheel"
  cv_Wheel_MOST : CvOk K (He.ga K "Wheel") "MOST" 12
  sp_Wheel_repr : SpF K (He.ga K "Wheel") (He.ma K (He.ga K "Wheel") "__repr__") "__repr__"
theorem cfOk (E : FX K mg) : CF TT K := fun c n hc h => by
  have hc2 : c ∈ ([0] : List Nat) := hc
  simp only [List.mem_cons, List.not_mem_nil, or_false] at hc2
  rcases hc2 with rfl
  · cases (Option.some.inj h)
    exact E.c_Wheel
theorem noCls_bool (E : FX K mg) : ∀ (c : Nat) m, c ∈ TT.hs → TT.cn[c]? = some m → PySem.W.kitOne K (.ref (He.ga K m)) (.type "bool") = some false := kitTs_ok E.kt_bool
theorem noCls_int (E : FX K mg) : ∀ (c : Nat) m, c ∈ TT.hs → TT.cn[c]? = some m → PySem.W.kitOne K (.ref (He.ga K m)) (.type "int") = some false := kitTs_ok E.kt_int
theorem noCls_list (E : FX K mg) : ∀ (c : Nat) m, c ∈ TT.hs → TT.cn[c]? = some m → PySem.W.kitOne K (.ref (He.ga K m)) (.type "list") = some false := kitTs_ok E.kt_list
theorem noCls_str (E : FX K mg) : ∀ (c : Nat) m, c ∈ TT.hs → TT.cn[c]? = some m → PySem.W.kitOne K (.ref (He.ga K m)) (.type "str") = some false := kitTs_ok E.kt_str
theorem noCls_tuple (E : FX K mg) : ∀ (c : Nat) m, c ∈ TT.hs → TT.cn[c]? = some m → PySem.W.kitOne K (.ref (He.ga K m)) (.type "tuple") = some false := kitTs_ok E.kt_tuple
theorem fo_Wheel_by_cell (E : FX K mg) : FOk TT K 0 "by_cell" := fo_of (n := "Wheel") rfl E.c_Wheel.cl E.na_Wheel_by_cell
theorem fo_Wheel_own_shivers (E : FX K mg) : FOk TT K 0 "own_shivers" := fo_of (n := "Wheel") rfl E.c_Wheel.cl E.na_Wheel_own_shivers
theorem fo_Wheel_own_tracks (E : FX K mg) : FOk TT K 0 "own_tracks" := fo_of (n := "Wheel") rfl E.c_Wheel.cl E.na_Wheel_own_tracks
theorem fo_Wheel_own_worn (E : FX K mg) : FOk TT K 0 "own_worn" := fo_of (n := "Wheel") rfl E.c_Wheel.cl E.na_Wheel_own_worn
theorem sc__law_source : FnScope ["_law_script"] ["_law_script"] (defScope (top 26)) := ⟨rfl, rfl, rfl, by decide +kernel, rfl, by decide +kernel, by decide +kernel⟩
theorem G__law_source (w : World) (base : Heap) (E : FX K mg) : Fn PW w K mg base 1 "_law_source" (top 26) ["_law_script"] (spSrc K) :=
  E.d__law_source.src sc__law_source fun f cdv A outer s H XX => src_body (pv 0) rfl E.b_list bt_list (by decide +kernel) (by decide +kernel) rfl rfl rfl rfl rfl rfl rfl
theorem sc_Wheel_text : FnScope ["self", "worn", "one"] ["self"] (defScope (inClass (top 24) 6)) := ⟨rfl, rfl, rfl, by decide +kernel, rfl, by decide +kernel, by decide +kernel⟩
theorem G_Wheel_text (w : World) (base : Heap) (E : FX K mg) : PF PW w K mg base 1 "Wheel" "text" ["self"] (spG TT K 1 m_Wheel_text) :=
  E.d_Wheel_text.fn (k := 0) sc_Wheel_text fun f cdv A outer s H XX PP hr =>
    (ds_cons (ds_set sc_Wheel_text.nd rfl (by first | exact .inl rfl | exact .inr rfl) (de_if (dt_isN (de_fld (de_var (pv 0)) rfl rfl (fo_cons (fo_Wheel_own_worn E) fo_nil))) (de_str [45] (by decide +kernel)) (de_callTy call_str_all s_str rfl E.b_str bt_str (da_cons (de_fld (de_var (pv 0)) rfl rfl (fo_cons (fo_Wheel_own_worn E) fo_nil)) da_nil rfl) (by decide +kernel) (by decide +kernel) rfl rfl)) rfl (.inl rfl))
      (ds_one (ds_ret (de_join (de_str [32] (by decide +kernel)) (de_lst (da_cons (de_str [119, 104, 101, 101, 108] (by decide +kernel)) (da_star (de_fld (de_var (pv 0)) rfl rfl (fo_cons (fo_Wheel_own_tracks E) fo_nil)) (da_cons (de_str [115, 104, 105, 118, 101, 114] (by decide +kernel)) (da_star (de_lc rfl sc_Wheel_text.nd (by exact di_seq (de_fld (de_var (pv 0)) rfl rfl (fo_cons (fo_Wheel_own_shivers E) fo_nil))) (blk_of (own := [("one", 2)]) (by kernel_rfl)) (fun s H C cl fp => (dg_name sc_Wheel_text.nd rfl (by first | exact .inl rfl | exact .inr rfl) (by first | exact .inr rfl | exact .inl rfl))) (fun s H C cl fp => dts_nil) (fun s H C cl fp => (de_callTy call_str_all s_str rfl E.b_str bt_str (da_cons (de_var (pv 2)) da_nil rfl) (by decide +kernel) (by decide +kernel) rfl rfl)) (by decide) (fun _ => rfl)) (da_cons (de_str [119, 111, 114, 110] (by decide +kernel)) (da_cons (de_var (pv 1)) da_nil rfl) rfl) rfl) rfl) rfl) rfl)) rfl rfl rfl))))
theorem sc_Wheel___eq__ : FnScope ["self", "other"] ["self", "other"] (defScope (inClass (top 24) 14)) := ⟨rfl, rfl, rfl, by decide +kernel, rfl, by decide +kernel, by decide +kernel⟩
theorem G_Wheel___eq__ (w : World) (base : Heap) (E : FX K mg) : MF PW w K mg base 3 "Wheel" "__eq__" ["self", "other"] (spG TT K 2 m_Wheel___eq__) :=
  E.d_Wheel___eq__.fn (k := 2) sc_Wheel___eq__ fun f cdv A outer s H XX PP hr =>
    (ds_one (ds_ret (de_and (de_isi (cfOk E) (de_var (pv 1)) (cpe_o [0] rfl E.g_Wheel E.kb_Wheel E.kc_Wheel) rfl E.b_isinstance bt_isinstance (by decide +kernel) (by decide +kernel) rfl rfl rfl) (de_one (de_cmp (op_eqD (room_v hr)) s_eq (de_prop (c := 0) rfl (G_Wheel_text w base E).at hr (by decide) (by decide +kernel) (de_var (pv 0)) rfl) (de_prop (c := 0) rfl (G_Wheel_text w base E).at hr (by decide) (by decide +kernel) (de_var (pv 1)) rfl) (nomark _))))))
theorem sc__law_draw : FnScope ["_law_src", "_law_many7", "_law_seed", "_law_cell7", "_law_digit"] ["_law_src", "_law_many7"] (defScope (top 27)) := ⟨rfl, rfl, rfl, by decide +kernel, rfl, by decide +kernel, by decide +kernel⟩
theorem G__law_draw (w : World) (base : Heap) (E : FX K mg) : Fn PW w K mg base 1 "_law_draw" (top 27) ["_law_src", "_law_many7"] (spG TT K 2 m_draw) :=
  E.d__law_draw.fn (k := 0) sc__law_draw fun f cdv A outer s H XX PP hr =>
    (ds_cons (ds_if (dt_dw (dw_and (dt_cmp (op_eqD (room_v hr)) s_eq (de_ixS (pv 0) de_int (fun _ _ => rfl)) de_int (nomark _)) (dw_and1 (dt_cmp op_lt s_lt (de_ixS (pv 0) de_int (fun _ _ => rfl)) (de_callB call_len s_len rfl E.b_len bt_len (da_cons (de_ixS (pv 0) de_int (fun _ _ => rfl)) da_nil rfl) (by decide +kernel) (by decide +kernel) rfl rfl) (nomark _))))) (ds_cons (ds_set sc__law_draw.nd rfl (by first | exact .inl rfl | exact .inr rfl) (de_ix (de_ixS (pv 0) de_int (fun _ _ => rfl)) (de_ixS (pv 0) de_int (fun _ _ => rfl)) (fun _ _ => rfl)) rfl (.inl rfl))
      (ds_cons (ds_sto (pv 0) de_int (de_op op_addAll s_add (de_ixS (pv 0) de_int (fun _ _ => rfl)) de_int) (fun _ => rfl) rfl rfl rfl)
      (ds_one (ds_if (dt_cmp op_ge s_ge (de_var (pv 3)) (de_op op_pow s_pow de_int de_int) (nomark _)) (ds_one (ds_sto (pv 0) de_int (de_var (pv 3)) (fun _ => rfl) rfl rfl rfl)) (ds_one (ds_sto (pv 0) de_int (de_op op_mod s_mod (de_callTy call_int1 s_int rfl E.b_int bt_int (da_cons (de_op op_addAll s_add (de_op op_addAll s_add (de_op op_mul s_mul (de_ixS (pv 0) de_int (fun _ _ => rfl)) de_int) (de_op op_mul s_mul (de_op op_mod s_mod (de_callTy call_int1 s_int rfl E.b_int bt_int (da_cons (de_var (pv 3)) da_nil rfl) (by decide +kernel) (by decide +kernel) rfl rfl) de_int) de_int)) de_int) da_nil rfl) (by decide +kernel) (by decide +kernel) rfl rfl) de_int) (fun _ => rfl) rfl rfl rfl)))))) ds_nil)
      (ds_cons (ds_if (dt_cmp op_gt s_gt (de_ixS (pv 0) de_int (fun _ _ => rfl)) de_int (nomark _)) (ds_cons (ds_set sc__law_draw.nd rfl (by first | exact .inl rfl | exact .inr rfl) (de_op op_mod s_mod (de_callTy call_int1 s_int rfl E.b_int bt_int (da_cons (de_ixS (pv 0) de_int (fun _ _ => rfl)) da_nil rfl) (by decide +kernel) (by decide +kernel) rfl rfl) (de_var (pv 1))) rfl (.inl rfl))
      (ds_cons (ds_sto (pv 0) de_int (de_op op_fdiv s_div (de_ixS (pv 0) de_int (fun _ _ => rfl)) (de_var (pv 1))) (fun _ => rfl) rfl rfl rfl)
      (ds_one (ds_ret (de_var (pv 4)))))) ds_nil)
      (ds_cons (ds_sto (pv 0) de_int (de_op op_addAll s_add (de_ixS (pv 0) de_int (fun _ _ => rfl)) de_int) (fun _ => rfl) rfl rfl rfl)
      (ds_cons (ds_set sc__law_draw.nd rfl (by first | exact .inl rfl | exact .inr rfl) (de_ixS (pv 0) de_int (fun _ _ => rfl)) rfl (.inl rfl))
      (ds_cons (ds_sto (pv 0) de_int (de_op op_mod s_mod (de_callTy call_int1 s_int rfl E.b_int bt_int (da_cons (de_op op_addAll s_add (de_op op_addAll s_add (de_op op_addAll s_add (de_op op_mul s_mul (de_var (pv 2)) (de_var (pv 2))) (de_op op_mul s_mul (de_var (pv 2)) de_int)) (de_op op_mul s_mul (de_ixS (pv 0) de_int (fun _ _ => rfl)) de_int)) de_int) da_nil rfl) (by decide +kernel) (by decide +kernel) rfl rfl) de_int) (fun _ => rfl) rfl rfl rfl)
      (ds_one (ds_ret (de_op op_mod s_mod (de_callTy call_int1 s_int rfl E.b_int bt_int (da_cons (de_op op_addAll s_add (de_op op_fdiv s_div (de_ixS (pv 0) de_int (fun _ _ => rfl)) de_int) (de_op op_mul s_mul (de_op op_mod s_mod (de_callTy call_int1 s_int rfl E.b_int bt_int (da_cons (de_ixS (pv 0) de_int (fun _ _ => rfl)) da_nil rfl) (by decide +kernel) (by decide +kernel) rfl rfl) de_int) de_int)) da_nil rfl) (by decide +kernel) (by decide +kernel) rfl rfl) (de_var (pv 1))))))))))
theorem sc__law_of : FnScope ["_law_src", "_law_things7"] ["_law_src", "_law_things7"] (defScope (top 28)) := ⟨rfl, rfl, rfl, by decide +kernel, rfl, by decide +kernel, by decide +kernel⟩
theorem G__law_of (w : World) (base : Heap) (E : FX K mg) : Fn PW w K mg base 2 "_law_of" (top 28) ["_law_src", "_law_things7"] (spG TT K 2 m_of) :=
  E.d__law_of.fn (k := 1) sc__law_of fun f cdv A outer s H XX PP hr =>
    (ds_one (ds_ret (de_ix (de_var (pv 1)) (de_fnS (G__law_draw w base E) hr (by decide) rfl (takes_of rfl rfl rfl rfl) (pv 0) (da_cons (de_callB call_len s_len rfl E.b_len bt_len (da_cons (de_var (pv 1)) da_nil rfl) (by decide +kernel) (by decide +kernel) rfl rfl) da_nil rfl) (by decide +kernel) rfl rfl) (fun _ _ => rfl))))
theorem sc__law_marks : FnScope ["_law_src", "_law_many7", "_law_k"] ["_law_src", "_law_many7"] (defScope (top 29)) := ⟨rfl, rfl, rfl, by decide +kernel, rfl, by decide +kernel, by decide +kernel⟩
theorem G__law_marks (w : World) (base : Heap) (E : FX K mg) : Fn PW w K mg base 3 "_law_marks" (top 29) ["_law_src", "_law_many7"] (spG TT K 2 m_marks) :=
  E.d__law_marks.fn (k := 2) sc__law_marks fun f cdv A outer s H XX PP hr =>
    (ds_one (ds_ret (de_join (de_str [] (by decide +kernel)) (de_lc rfl sc__law_marks.nd (by exact di_range1 rfl E.b_range (da_cons (de_var (pv 1)) da_nil rfl) rfl) (blk_of (own := [("_law_k", 2)]) (by kernel_rfl)) (fun s H C cl fp => (dg_name sc__law_marks.nd rfl (by first | exact .inl rfl | exact .inr rfl) (by first | exact .inr rfl | exact .inl rfl))) (fun s H C cl fp => dts_nil) (fun s H C cl fp => (de_fnS (G__law_of w base E) hr (by decide) rfl takes_w0 (pv 0) (da_cons (de_str [48, 49] (by decide +kernel)) da_nil rfl) (by decide +kernel) rfl rfl)) (by decide) (fun _ => rfl)) rfl rfl rfl)))
theorem sc__law_turned : FnScope ["_law_track", "_law_by"] ["_law_track", "_law_by"] (defScope (top 33)) := ⟨rfl, rfl, rfl, by decide +kernel, rfl, by decide +kernel, by decide +kernel⟩
theorem G__law_turned (w : World) (base : Heap) (E : FX K mg) : Fn PW w K mg base 1 "_law_turned" (top 33) ["_law_track", "_law_by"] (spG TT K 2 m__law_turned) :=
  E.d__law_turned.fn (k := 0) sc__law_turned fun f cdv A outer s H XX PP hr =>
    (ds_one (ds_ret (de_op op_addAll s_add (de_slice (de_var (pv 0)) (dp_some (de_var (pv 1))) dp_none) (de_slice (de_var (pv 0)) dp_none (dp_some (de_var (pv 1)))))))
theorem sc__law_drawn_wheel : FnScope ["_law_src", "_law_size7", "_law_many", "_law_tracks7", "_law_shivers7", "_law_k", "_law_one", "_law_by"] ["_law_src", "_law_size7", "_law_many"] (defScope (top 32)) := ⟨rfl, rfl, rfl, by decide +kernel, rfl, by decide +kernel, by decide +kernel⟩
theorem G__law_drawn_wheel (w : World) (base : Heap) (E : FX K mg) : Fn PW w K mg base 4 "_law_drawn_wheel" (top 32) ["_law_src", "_law_size7", "_law_many"] (spG TT K 3 m__law_drawn_wheel) :=
  E.d__law_drawn_wheel.fn (k := 3) sc__law_drawn_wheel fun f cdv A outer s H XX PP hr =>
    (ds_cons (by first | exact ds_setLc rfl sc__law_drawn_wheel.nd rfl rfl rfl (by exact di_range1 rfl E.b_range (da_cons (de_var (pv 2)) da_nil rfl) rfl) (blk_of (own := [("_law_k", 5)]) (by kernel_rfl)) (fun s H C cl fp => (dg_name sc__law_drawn_wheel.nd rfl (by first | exact .inl rfl | exact .inr rfl) (by first | exact .inr rfl | exact .inl rfl))) (fun s H C cl fp => dts_nil) (fun s H C cl fp => (de_fnS (G__law_marks w base E) hr (by decide) rfl takes_w0 (pv 0) (da_cons (de_var (pv 1)) da_nil rfl) (by decide +kernel) rfl rfl)) (by decide) (fun _ => rfl) | exact ds_set sc__law_drawn_wheel.nd rfl (by first | exact .inl rfl | exact .inr rfl) (de_lc rfl sc__law_drawn_wheel.nd (by exact di_range1 rfl E.b_range (da_cons (de_var (pv 2)) da_nil rfl) rfl) (blk_of (own := [("_law_k", 5)]) (by kernel_rfl)) (fun s H C cl fp => (dg_name sc__law_drawn_wheel.nd rfl (by first | exact .inl rfl | exact .inr rfl) (by first | exact .inr rfl | exact .inl rfl))) (fun s H C cl fp => dts_nil) (fun s H C cl fp => (de_fnS (G__law_marks w base E) hr (by decide) rfl takes_w0 (pv 0) (da_cons (de_var (pv 1)) da_nil rfl) (by decide +kernel) rfl rfl)) (by decide) (fun _ => rfl)) rfl (.inl rfl))
      (ds_cons (ds_if (dt_dw (dw_and (dt_cmp (op_eqD (room_v hr)) s_eq (de_var (pv 2)) de_int (nomark _)) (dw_and1 (dt_cmp (op_eqD (room_v hr)) s_eq (de_fnS (G__law_draw w base E) hr (by decide) rfl (takes_of rfl rfl rfl rfl) (pv 0) (da_cons de_int da_nil rfl) (by decide +kernel) rfl rfl) de_int (nomark _))))) (ds_one (ds_set sc__law_drawn_wheel.nd rfl (by first | exact .inl rfl | exact .inr rfl) (de_if (dt_cmp (op_eqD (room_v hr)) s_eq (de_var (pv 1)) de_int (nomark _)) (de_lc rfl sc__law_drawn_wheel.nd (by exact di_zip rfl E.b_zip (da_cons (de_lst (da_cons (de_str [48, 48, 49, 49] (by decide +kernel)) (da_cons (de_str [48, 48, 49, 49] (by decide +kernel)) da_nil rfl) rfl)) (da_cons (de_lst (da_cons de_int (da_cons de_int da_nil rfl) rfl)) da_nil rfl) rfl) rfl rfl) (blk_of (own := [("_law_one", 6), ("_law_by", 7)]) (by kernel_rfl)) (fun s H C cl fp => (dg_tup (n := 2) rfl (dgs_cons (dg_name sc__law_drawn_wheel.nd rfl (by first | exact .inl rfl | exact .inr rfl) (by first | exact .inr rfl | exact .inl rfl)) (dgs_cons (dg_name sc__law_drawn_wheel.nd rfl (by first | exact .inl rfl | exact .inr rfl) (by first | exact .inr rfl | exact .inl rfl)) dgs_nil rfl) rfl) rfl rfl len2)) (fun s H C cl fp => dts_nil) (fun s H C cl fp => (de_fn (G__law_turned w base E) hr (by decide) rfl takes_w0 (da_cons (de_var (pv 6)) (da_cons (de_var (pv 7)) da_nil rfl) rfl) (by decide +kernel) rfl rfl)) (by decide) (fun _ => rfl)) (de_var (pv 3))) rfl (.inl rfl))) ds_nil)
      (ds_cons (by first | exact ds_setLc rfl sc__law_drawn_wheel.nd rfl rfl rfl (by exact di_range1 rfl E.b_range (da_cons (de_var (pv 2)) da_nil rfl) rfl) (blk_of (own := [("_law_k", 5)]) (by kernel_rfl)) (fun s H C cl fp => (dg_name sc__law_drawn_wheel.nd rfl (by first | exact .inl rfl | exact .inr rfl) (by first | exact .inr rfl | exact .inl rfl))) (fun s H C cl fp => dts_nil) (fun s H C cl fp => (de_fnS (G__law_of w base E) hr (by decide) rfl takes_w0 (pv 0) (da_cons (de_lst (da_cons de_int (da_cons de_int (da_cons de_int (da_cons de_int (da_cons de_int (da_cons de_int da_nil rfl) rfl) rfl) rfl) rfl) rfl)) da_nil rfl) (by decide +kernel) rfl rfl)) (by decide) (fun _ => rfl) | exact ds_set sc__law_drawn_wheel.nd rfl (by first | exact .inl rfl | exact .inr rfl) (de_lc rfl sc__law_drawn_wheel.nd (by exact di_range1 rfl E.b_range (da_cons (de_var (pv 2)) da_nil rfl) rfl) (blk_of (own := [("_law_k", 5)]) (by kernel_rfl)) (fun s H C cl fp => (dg_name sc__law_drawn_wheel.nd rfl (by first | exact .inl rfl | exact .inr rfl) (by first | exact .inr rfl | exact .inl rfl))) (fun s H C cl fp => dts_nil) (fun s H C cl fp => (de_fnS (G__law_of w base E) hr (by decide) rfl takes_w0 (pv 0) (da_cons (de_lst (da_cons de_int (da_cons de_int (da_cons de_int (da_cons de_int (da_cons de_int (da_cons de_int da_nil rfl) rfl) rfl) rfl) rfl) rfl)) da_nil rfl) (by decide +kernel) rfl rfl)) (by decide) (fun _ => rfl)) rfl (.inl rfl))
      (ds_one (ds_ret (de_tup (da_cons (de_var (pv 3)) (da_cons (de_var (pv 4)) (da_cons (de_if (dt_cmp (op_eqD (room_v hr)) s_eq (de_fnS (G__law_draw w base E) hr (by decide) rfl (takes_of rfl rfl rfl rfl) (pv 0) (da_cons de_int da_nil rfl) (by decide +kernel) rfl rfl) de_int (nomark _)) (de_fnS (G__law_draw w base E) hr (by decide) rfl (takes_of rfl rfl rfl rfl) (pv 0) (da_cons (de_var (pv 2)) da_nil rfl) (by decide +kernel) rfl rfl) de_non) da_nil rfl) rfl) rfl)))))))
theorem sc_is_marks : FnScope ["value", "least", "most", "sign"] ["value", "least", "most"] (defScope (top 16)) := ⟨rfl, rfl, rfl, by decide +kernel, rfl, by decide +kernel, by decide +kernel⟩
theorem G_is_marks (w : World) (base : Heap) (E : FX K mg) : Fn PW w K mg base 1 "is_marks" (top 16) ["value", "least", "most"] (spG TT K 3 m_is_marks) :=
  E.d_is_marks.fn (k := 0) sc_is_marks fun f cdv A outer s H XX PP hr =>
    (ds_cons (ds_if (dt_dw (dw_or (dt_not (dt_val (de_isi (cfOk E) (de_var (pv 0)) (cpe_b .str rfl E.b_str bt_str (noCls_str E) (by decide +kernel) (by decide +kernel)) rfl E.b_isinstance bt_isinstance (by decide +kernel) (by decide +kernel) rfl rfl rfl) (fun _ => rfl))) (dw_or1 (dt_not (dt_chain op_le s_le op_le s_le (de_var (pv 1)) (de_callB call_len s_len rfl E.b_len bt_len (da_cons (de_var (pv 0)) da_nil rfl) (by decide +kernel) (by decide +kernel) rfl rfl) (de_var (pv 2)) rfl))))) (ds_one (ds_ret de_bl)) ds_nil)
      (ds_one (ds_ret (de_callB (cr_all rfl) s_all rfl E.b_all bt_all (da_cons (de_lc rfl sc_is_marks.nd (by exact di_seq (de_var (pv 0))) (blk_of (own := [("sign", 3)]) (by kernel_rfl)) (fun s H C cl fp => (dg_name sc_is_marks.nd rfl (by first | exact .inl rfl | exact .inr rfl) (by first | exact .inr rfl | exact .inl rfl))) (fun s H C cl fp => dts_nil) (fun s H C cl fp => (de_cmp (op_inAll (room_u hr)) s_in (de_var (pv 3)) (de_gstr [48, 49] rfl E.i_MARKS (by decide +kernel)) rfl)) (by decide) (fun _ => rfl)) da_nil rfl) (by decide +kernel) (by decide +kernel) rfl rfl))))
theorem sc_is_track : FnScope ["value"] ["value"] (defScope (top 17)) := ⟨rfl, rfl, rfl, by decide +kernel, rfl, by decide +kernel, by decide +kernel⟩
theorem G_is_track (w : World) (base : Heap) (E : FX K mg) : Fn PW w K mg base 2 "is_track" (top 17) ["value"] (spG TT K 1 m_is_track) :=
  E.d_is_track.fn (k := 1) sc_is_track fun f cdv A outer s H XX PP hr =>
    (ds_one (ds_ret (de_fn (G_is_marks w base E) hr (by decide) rfl (takes_of rfl rfl rfl rfl) (da_cons (de_var (pv 0)) (da_cons de_int (da_cons (de_gint 12 rfl E.i_MOST_CELLS) da_nil rfl) rfl) rfl) (by decide +kernel) rfl rfl)))
theorem sc_need_tracks : FnScope ["tracks", "at", "track"] ["tracks"] (defScope (top 22)) := ⟨rfl, rfl, rfl, by decide +kernel, rfl, by decide +kernel, by decide +kernel⟩
theorem G_need_tracks (w : World) (base : Heap) (E : FX K mg) : Fn PW w K mg base 3 "need_tracks" (top 22) ["tracks"] (spG TT K 1 m_need_tracks) :=
  E.d_need_tracks.fn (k := 2) sc_need_tracks fun f cdv A outer s H XX PP hr =>
    (ds_cons (ds_if (dt_cmp (op_eqD (room_v hr)) s_eq (de_callB call_len s_len rfl E.b_len bt_len (da_cons (de_var (pv 0)) da_nil rfl) (by decide +kernel) (by decide +kernel) rfl rfl) de_int (nomark _)) (ds_one ds_no) ds_nil)
      (ds_cons (ds_if (dt_cmp op_gt s_gt (de_callB call_len s_len rfl E.b_len bt_len (da_cons (de_var (pv 0)) da_nil rfl) (by decide +kernel) (by decide +kernel) rfl rfl) (de_gint 3 rfl E.i_MOST_TRACKS) (nomark _)) (ds_one ds_no) ds_nil)
      (ds_cons (ds_for .leaving rfl (by exact di_enumA rfl E.b_enumerate (da_cons (de_var (pv 0)) da_nil rfl) rfl) (dg_tup (n := 2) rfl (dgs_cons (dg_name sc_need_tracks.nd rfl (by first | exact .inl rfl | exact .inr rfl) (by first | exact .inr rfl | exact .inl rfl)) (dgs_cons (dg_name sc_need_tracks.nd rfl (by first | exact .inl rfl | exact .inr rfl) (by first | exact .inr rfl | exact .inl rfl)) dgs_nil rfl) rfl) rfl rfl len2) (ds_one (ds_if (dt_not (dt_val (de_fn (G_is_track w base E) hr (by decide) rfl (takes_of rfl rfl rfl rfl) (da_cons (de_var (pv 2)) da_nil rfl) (by decide +kernel) rfl rfl) (fun _ => rfl))) (ds_one ds_no) ds_nil)) (fun _ => rfl))
      (ds_one (ds_for .leaving rfl (by exact di_seq (de_var (pv 0))) (dg_name sc_need_tracks.nd rfl (by first | exact .inl rfl | exact .inr rfl) (by first | exact .inr rfl | exact .inl rfl)) (ds_one (ds_if (dt_cmp (op_neD (room_v hr)) s_ne (de_callB call_len s_len rfl E.b_len bt_len (da_cons (de_var (pv 2)) da_nil rfl) (by decide +kernel) (by decide +kernel) rfl rfl) (de_callB call_len s_len rfl E.b_len bt_len (da_cons (de_ix (de_var (pv 0)) de_int (fun _ _ => rfl)) da_nil rfl) (by decide +kernel) (by decide +kernel) rfl rfl) (nomark _)) (ds_one ds_no) ds_nil)) (fun _ => rfl))))))
theorem sc_is_list : FnScope ["value"] ["value"] (defScope (top 15)) := ⟨rfl, rfl, rfl, by decide +kernel, rfl, by decide +kernel, by decide +kernel⟩
theorem G_is_list (w : World) (base : Heap) (E : FX K mg) : Fn PW w K mg base 1 "is_list" (top 15) ["value"] (spG TT K 1 m_is_list) :=
  E.d_is_list.fn (k := 0) sc_is_list fun f cdv A outer s H XX PP hr =>
    (ds_one (ds_ret (de_isiT2 (cfOk E) (de_var (pv 0)) (cpe_b .lst rfl E.b_list bt_list (noCls_list E) (by decide +kernel) (by decide +kernel)) (cpe_b .tup rfl E.b_tuple bt_tuple (noCls_tuple E) (by decide +kernel) (by decide +kernel)) rfl E.b_isinstance bt_isinstance (by decide +kernel) (by decide +kernel) rfl rfl rfl rfl rfl)))
theorem sc_is_number : FnScope ["value", "least", "most"] ["value", "least", "most"] (defScope (top 14)) := ⟨rfl, rfl, rfl, by decide +kernel, rfl, by decide +kernel, by decide +kernel⟩
theorem G_is_number (w : World) (base : Heap) (E : FX K mg) : Fn PW w K mg base 1 "is_number" (top 14) ["value", "least", "most"] (spG TT K 3 m_is_number) :=
  E.d_is_number.fn (k := 0) sc_is_number fun f cdv A outer s H XX PP hr =>
    (ds_one (ds_ret (de_and (de_isi (cfOk E) (de_var (pv 0)) (cpe_b .int rfl E.b_int bt_int (noCls_int E) (by decide +kernel) (by decide +kernel)) rfl E.b_isinstance bt_isinstance (by decide +kernel) (by decide +kernel) rfl rfl rfl) (de_and (de_not (de_isi (cfOk E) (de_var (pv 0)) (cpe_b .bl rfl E.b_bool bt_bool (noCls_bool E) (by decide +kernel) (by decide +kernel)) rfl E.b_isinstance bt_isinstance (by decide +kernel) (by decide +kernel) rfl rfl rfl)) (de_one (de_chain op_le s_le op_le s_le (de_var (pv 1)) (de_var (pv 0)) (de_var (pv 2)) rfl))))))
theorem sc_need_shivers : FnScope ["many", "shivers", "at"] ["many", "shivers"] (defScope (top 23)) := ⟨rfl, rfl, rfl, by decide +kernel, rfl, by decide +kernel, by decide +kernel⟩
theorem G_need_shivers (w : World) (base : Heap) (E : FX K mg) : Fn PW w K mg base 2 "need_shivers" (top 23) ["many", "shivers"] (spG TT K 2 m_need_shivers) :=
  E.d_need_shivers.fn (k := 1) sc_need_shivers fun f cdv A outer s H XX PP hr =>
    (ds_cons (ds_if (dt_not (dt_val (de_fn (G_is_list w base E) hr (by decide) rfl (takes_of rfl rfl rfl rfl) (da_cons (de_var (pv 1)) da_nil rfl) (by decide +kernel) rfl rfl) (fun _ => rfl))) (ds_one ds_no) ds_nil)
      (ds_cons (ds_for .leaving rfl (by exact di_range1 rfl E.b_range (da_cons (de_var (pv 0)) da_nil rfl) rfl) (dg_name sc_need_shivers.nd rfl (by first | exact .inl rfl | exact .inr rfl) (by first | exact .inr rfl | exact .inl rfl)) (ds_one (ds_if (dt_dw (dw_or (dt_cmp op_ge s_ge (de_var (pv 2)) (de_callB call_len s_len rfl E.b_len bt_len (da_cons (de_var (pv 1)) da_nil rfl) (by decide +kernel) (by decide +kernel) rfl rfl) (nomark _)) (dw_or1 (dt_not (dt_val (de_fn (G_is_number w base E) hr (by decide) rfl (takes_of rfl rfl rfl rfl) (da_cons (de_ix (de_var (pv 1)) (de_var (pv 2)) (fun _ _ => rfl)) (da_cons de_int (da_cons (de_gint 2 rfl E.i_MOST_SHIVER) da_nil rfl) rfl) rfl) (by decide +kernel) rfl rfl) (fun _ => rfl)))))) (ds_one ds_no) ds_nil)) (fun _ => rfl))
      (ds_one (ds_if (dt_cmp op_gt s_gt (de_callB call_len s_len rfl E.b_len bt_len (da_cons (de_var (pv 1)) da_nil rfl) (by decide +kernel) (by decide +kernel) rfl rfl) (de_var (pv 0)) (nomark _)) (ds_one ds_no) ds_nil))))
theorem sc_joined : FnScope ["options", "found", "marks", "text", "mark"] ["options"] (defScope (top 18)) := ⟨rfl, rfl, rfl, by decide +kernel, rfl, by decide +kernel, by decide +kernel⟩
theorem G_joined (w : World) (base : Heap) (E : FX K mg) : Fn PW w K mg base 1 "joined" (top 18) ["options"] (spG TT K 1 m_joined) :=
  E.d_joined.fn (k := 0) sc_joined fun f cdv A outer s H XX PP hr =>
    (ds_cons (ds_set sc_joined.nd rfl (by first | exact .inl rfl | exact .inr rfl) (de_lst (da_cons (de_str [] (by decide +kernel)) da_nil rfl)) rfl (.inl rfl))
      (ds_cons (ds_for .leaving rfl (by exact di_seq (de_var (pv 0))) (dg_name sc_joined.nd rfl (by first | exact .inl rfl | exact .inr rfl) (by first | exact .inr rfl | exact .inl rfl)) (ds_one (by first | exact ds_setLc2 [4] rfl sc_joined.nd rfl rfl rfl (by exact di_seq (de_var (pv 1))) (blk_of (own := [("text", 3), ("mark", 4)]) (by kernel_rfl)) (by decide) (fun s H C cl fp => (dg_name sc_joined.nd rfl (by first | exact .inl rfl | exact .inr rfl) (by first | exact .inr rfl | exact .inl rfl))) (fun s H C cl fp => dts_nil) (fun s H C cl fp => (by exact di_seq (de_var (pv 2)))) (fun s H C cl fp => (dg_name sc_joined.nd rfl (by first | exact .inl rfl | exact .inr rfl) (by first | exact .inr rfl | exact .inl rfl))) (fun s H C cl fp => dts_nil) (fun s H C cl fp => (de_op op_addAll s_add (de_var (pv 3)) (de_var (pv 4)))) (by decide) (by decide) (fun _ => rfl) (fun _ _ => rfl) | exact ds_set sc_joined.nd rfl (by first | exact .inl rfl | exact .inr rfl) (de_lc2 [4] rfl sc_joined.nd (by exact di_seq (de_var (pv 1))) (blk_of (own := [("text", 3), ("mark", 4)]) (by kernel_rfl)) (by decide) (fun s H C cl fp => (dg_name sc_joined.nd rfl (by first | exact .inl rfl | exact .inr rfl) (by first | exact .inr rfl | exact .inl rfl))) (fun s H C cl fp => dts_nil) (fun s H C cl fp => (by exact di_seq (de_var (pv 2)))) (fun s H C cl fp => (dg_name sc_joined.nd rfl (by first | exact .inl rfl | exact .inr rfl) (by first | exact .inr rfl | exact .inl rfl))) (fun s H C cl fp => dts_nil) (fun s H C cl fp => (de_op op_addAll s_add (de_var (pv 3)) (de_var (pv 4)))) (by decide) (by decide) (fun _ => rfl) (fun _ _ => rfl)) rfl (.inl rfl))) (fun _ => rfl))
      (ds_one (ds_ret (de_var (pv 1))))))
theorem sc_Wheel_sights_at_p : FnScope ["self", "cell", "options", "at", "track", "reach", "read", "by", "mark"] ["self", "cell"] (defScope (inClass (top 24) 2)) := ⟨rfl, rfl, rfl, by decide +kernel, rfl, by decide +kernel, by decide +kernel⟩
theorem G_Wheel_sights_at_p (w : World) (base : Heap) (E : FX K mg) : MF PW w K mg base 2 "Wheel" "sights_at" ["self", "cell"] (spG TT K 2 m_Wheel_sights_at_p) :=
  E.d_Wheel_sights_at.fn (k := 1) sc_Wheel_sights_at_p fun f cdv A outer s H XX PP hr =>
    (ds_cons (ds_setO sc_Wheel_sights_at_p.nd rfl (by first | exact .inl rfl | exact .inr rfl) (do_lst da_nil) rfl (.inl rfl))
      (ds_cons (ds_for .leaving rfl (by exact di_enumA rfl E.b_enumerate (da_cons (de_fldS (pv 0) rfl rfl (fo_cons (fo_Wheel_own_tracks E) fo_nil)) da_nil rfl) rfl) (dg_tup (n := 2) rfl (dgs_cons (dg_name sc_Wheel_sights_at_p.nd rfl (by first | exact .inl rfl | exact .inr rfl) (by first | exact .inr rfl | exact .inl rfl)) (dgs_cons (dg_name sc_Wheel_sights_at_p.nd rfl (by first | exact .inl rfl | exact .inr rfl) (by first | exact .inr rfl | exact .inl rfl)) dgs_nil rfl) rfl) rfl rfl len2) (ds_cons (ds_set sc_Wheel_sights_at_p.nd rfl (by first | exact .inl rfl | exact .inr rfl) (de_ix (de_fldS (pv 0) rfl rfl (fo_cons (fo_Wheel_own_shivers E) fo_nil)) (de_var (pv 3)) (fun _ _ => rfl)) rfl (.inl rfl))
      (ds_cons (by first | exact ds_setLc rfl sc_Wheel_sights_at_p.nd rfl rfl rfl (by exact di_range2 rfl E.b_range (da_cons (de_un un_neg s_neg (de_var (pv 5))) (da_cons (de_op op_addAll s_add (de_var (pv 5)) de_int) da_nil rfl) rfl) rfl rfl) (blk_of (own := [("by", 7)]) (by kernel_rfl)) (fun s H C cl fp => (dg_name sc_Wheel_sights_at_p.nd rfl (by first | exact .inl rfl | exact .inr rfl) (by first | exact .inr rfl | exact .inl rfl))) (fun s H C cl fp => dts_nil) (fun s H C cl fp => (de_ix (de_var (pv 4)) (de_op op_mod s_mod (de_op op_addAll s_add (de_var (pv 1)) (de_var (pv 7))) (de_callB call_len s_len rfl E.b_len bt_len (da_cons (de_var (pv 4)) da_nil rfl) (by decide +kernel) (by decide +kernel) rfl rfl)) (fun _ _ => rfl))) (by decide) (fun _ => rfl) | exact ds_set sc_Wheel_sights_at_p.nd rfl (by first | exact .inl rfl | exact .inr rfl) (de_lc rfl sc_Wheel_sights_at_p.nd (by exact di_range2 rfl E.b_range (da_cons (de_un un_neg s_neg (de_var (pv 5))) (da_cons (de_op op_addAll s_add (de_var (pv 5)) de_int) da_nil rfl) rfl) rfl rfl) (blk_of (own := [("by", 7)]) (by kernel_rfl)) (fun s H C cl fp => (dg_name sc_Wheel_sights_at_p.nd rfl (by first | exact .inl rfl | exact .inr rfl) (by first | exact .inr rfl | exact .inl rfl))) (fun s H C cl fp => dts_nil) (fun s H C cl fp => (de_ix (de_var (pv 4)) (de_op op_mod s_mod (de_op op_addAll s_add (de_var (pv 1)) (de_var (pv 7))) (de_callB call_len s_len rfl E.b_len bt_len (da_cons (de_var (pv 4)) da_nil rfl) (by decide +kernel) (by decide +kernel) rfl rfl)) (fun _ _ => rfl))) (by decide) (fun _ => rfl)) rfl (.inl rfl))
      (ds_one (ds_app (pv 2) (de_lc rfl sc_Wheel_sights_at_p.nd (by exact di_seq (de_gstr [48, 49] rfl E.i_MARKS (by decide +kernel))) (blk_of (own := [("mark", 8)]) (by kernel_rfl)) (fun s H C cl fp => (dg_name sc_Wheel_sights_at_p.nd rfl (by first | exact .inl rfl | exact .inr rfl) (by first | exact .inr rfl | exact .inl rfl))) (fun s H C cl fp => (dts_one (dt_dw (dw_or (dt_cmp (op_inAll (room_u hr)) s_in (de_var (pv 8)) (de_var (pv 6)) rfl) (dw_or1 (dt_cmp (op_eqD (room_v hr)) s_eq (de_var (pv 3)) (de_fldS (pv 0) rfl rfl (fo_cons (fo_Wheel_own_worn E) fo_nil)) (nomark _))))))) (fun s H C cl fp => (de_var (pv 8))) (by decide) (fun _ => rfl)) rfl rfl rfl rfl rfl rfl)))) (fun _ => rfl))
      (ds_one (ds_ret (de_fn (G_joined w base E) hr (by decide) rfl (takes_of rfl rfl rfl rfl) (da_cons (de_varF (pv 2)) da_nil rfl) (by decide +kernel) rfl rfl)))))
theorem sc_Wheel___init__ : FnScope ["self", "shivers", "worn", "tracks", "known", "cell"] ["self", "shivers", "worn", "tracks"] (defScope (inClass (top 24) 1)) := ⟨rfl, rfl, rfl, by decide +kernel, rfl, by decide +kernel, by decide +kernel⟩
theorem G_Wheel___init___k01_0 (w : World) (base : Heap) (E : FX K mg) : FnA PW w K mg base (L2.CX PW w) 4 (He.ma K (He.ga K "Wheel") "__init__") [] (spStar TT K 4 (fun zs => pxV [0, 1] (zs ++ ([.non, .non] : List V))) m_Wheel___init__) := by
  obtain ⟨fd, FD⟩ := E.d_Wheel___init__.ex
  exact init_ok (k := 3) (n2 := 2) (ix := [0, 1]) (ms := [("shivers", .non), ("worn", .non)]) FD sc_Wheel___init__ rfl (by simp) (by simp) rfl (fun dict doc pm an cdv ct u rest ws mv h1 h2 => match rest, ws, mv, h1, h2 with | [], [], [_, _], _, _ => ⟨_, _, _, _, _, _, rfl, rfl, ⟨_, _, _, _, _, _, rfl, rfl, rfl⟩⟩ | _ :: _, [], [_, _], _, _ => ⟨_, _, _, _, _, _, rfl, rfl, ⟨_, _, _, _, _, _, rfl, rfl, rfl⟩⟩) fun cdv A outer s H E2 PP hr =>
    (ds_cons (ds_expr (de_fn (G_need_tracks w base E) hr (by decide) rfl (takes_of rfl rfl rfl rfl) (da_cons (de_var (pv 3)) da_nil rfl) (by decide +kernel) rfl rfl) rfl)
      (ds_cons (ds_set sc_Wheel___init__.nd rfl (by first | exact .inl rfl | exact .inr rfl) (de_if (dt_isN (de_var (pv 1))) (de_op op_mulA s_mulA (de_lst (da_cons de_int da_nil rfl)) (de_callB call_len s_len rfl E.b_len bt_len (da_cons (de_var (pv 3)) da_nil rfl) (by decide +kernel) (by decide +kernel) rfl rfl)) (de_var (pv 1))) rfl (.inl rfl))
      (ds_cons (ds_expr (de_fn (G_need_shivers w base E) hr (by decide) rfl (takes_of rfl rfl rfl rfl) (da_cons (de_callB call_len s_len rfl E.b_len bt_len (da_cons (de_var (pv 3)) da_nil rfl) (by decide +kernel) (by decide +kernel) rfl rfl) (da_cons (de_var (pv 4)) da_nil rfl) rfl) (by decide +kernel) rfl rfl) rfl)
      (ds_cons (ds_if (dt_dw (dw_and (dt_notN (de_var (pv 2))) (dw_and1 (dt_not (dt_val (de_fn (G_is_number w base E) hr (by decide) rfl (takes_of rfl rfl rfl rfl) (da_cons (de_var (pv 2)) (da_cons de_int (da_cons (de_op op_sub s_sub (de_callB call_len s_len rfl E.b_len bt_len (da_cons (de_var (pv 3)) da_nil rfl) (by decide +kernel) (by decide +kernel) rfl rfl) de_int) da_nil rfl) rfl) rfl) (by decide +kernel) rfl rfl) (fun _ => rfl)))))) (ds_one ds_no) ds_nil)
      (ds_cons (ds_fldS (pv 0) (de_callTy (call_listA rfl) s_listA rfl E.b_list bt_list (da_cons (de_var (pv 3)) da_nil rfl) (by decide +kernel) (by decide +kernel) rfl rfl) rfl rfl (fo_cons (fo_Wheel_own_tracks E) fo_nil))
      (ds_cons (ds_fldS (pv 0) (de_callTy (call_listA rfl) s_listA rfl E.b_list bt_list (da_cons (de_var (pv 4)) da_nil rfl) (by decide +kernel) (by decide +kernel) rfl rfl) rfl rfl (fo_cons (fo_Wheel_own_shivers E) fo_nil))
      (ds_cons (ds_fldS (pv 0) (de_var (pv 2)) rfl rfl (fo_cons (fo_Wheel_own_worn E) fo_nil))
      (ds_one (ds_fldS (pv 0) (de_lc rfl sc_Wheel___init__.nd (by exact di_range1 rfl E.b_range (da_cons (de_callB call_len s_len rfl E.b_len bt_len (da_cons (de_ix (de_var (pv 3)) de_int (fun _ _ => rfl)) da_nil rfl) (by decide +kernel) (by decide +kernel) rfl rfl) da_nil rfl) rfl) (blk_of (own := [("cell", 5)]) (by kernel_rfl)) (fun s H C cl fp => (dg_name sc_Wheel___init__.nd rfl (by first | exact .inl rfl | exact .inr rfl) (by first | exact .inr rfl | exact .inl rfl))) (fun s H C cl fp => dts_nil) (fun s H C cl fp => (de_methS (c := 0) rfl (G_Wheel_sights_at_p w base E).at hr (by decide) (by decide +kernel) (pv 0) (da_cons (de_var (pv 5)) da_nil rfl) rfl rfl rfl)) (by decide) (fun _ => rfl)) rfl rfl (fo_cons (fo_Wheel_by_cell E) fo_nil))))))))))
theorem G_Wheel___init___k01_2 (w : World) (base : Heap) (E : FX K mg) : FnA PW w K mg base (L2.CX PW w) 4 (He.ma K (He.ga K "Wheel") "__init__") ["shivers", "worn"] (spStar TT K 4 (fun zs => pxV [0, 1] (zs ++ ([] : List V))) m_Wheel___init__) := by
  obtain ⟨fd, FD⟩ := E.d_Wheel___init__.ex
  exact init_ok (k := 3) (n2 := 2) (ix := [0, 1]) (ms := []) FD sc_Wheel___init__ rfl (by simp) (by simp) rfl (fun dict doc pm an cdv ct u rest ws mv h1 h2 => match rest, ws, mv, h1, h2 with | [], [_, _], [], _, _ => rfl | _ :: _, [_, _], [], _, _ => rfl) fun cdv A outer s H E2 PP hr =>
    (ds_cons (ds_expr (de_fn (G_need_tracks w base E) hr (by decide) rfl (takes_of rfl rfl rfl rfl) (da_cons (de_var (pv 3)) da_nil rfl) (by decide +kernel) rfl rfl) rfl)
      (ds_cons (ds_set sc_Wheel___init__.nd rfl (by first | exact .inl rfl | exact .inr rfl) (de_if (dt_isN (de_var (pv 1))) (de_op op_mulA s_mulA (de_lst (da_cons de_int da_nil rfl)) (de_callB call_len s_len rfl E.b_len bt_len (da_cons (de_var (pv 3)) da_nil rfl) (by decide +kernel) (by decide +kernel) rfl rfl)) (de_var (pv 1))) rfl (.inl rfl))
      (ds_cons (ds_expr (de_fn (G_need_shivers w base E) hr (by decide) rfl (takes_of rfl rfl rfl rfl) (da_cons (de_callB call_len s_len rfl E.b_len bt_len (da_cons (de_var (pv 3)) da_nil rfl) (by decide +kernel) (by decide +kernel) rfl rfl) (da_cons (de_var (pv 4)) da_nil rfl) rfl) (by decide +kernel) rfl rfl) rfl)
      (ds_cons (ds_if (dt_dw (dw_and (dt_notN (de_var (pv 2))) (dw_and1 (dt_not (dt_val (de_fn (G_is_number w base E) hr (by decide) rfl (takes_of rfl rfl rfl rfl) (da_cons (de_var (pv 2)) (da_cons de_int (da_cons (de_op op_sub s_sub (de_callB call_len s_len rfl E.b_len bt_len (da_cons (de_var (pv 3)) da_nil rfl) (by decide +kernel) (by decide +kernel) rfl rfl) de_int) da_nil rfl) rfl) rfl) (by decide +kernel) rfl rfl) (fun _ => rfl)))))) (ds_one ds_no) ds_nil)
      (ds_cons (ds_fldS (pv 0) (de_callTy (call_listA rfl) s_listA rfl E.b_list bt_list (da_cons (de_var (pv 3)) da_nil rfl) (by decide +kernel) (by decide +kernel) rfl rfl) rfl rfl (fo_cons (fo_Wheel_own_tracks E) fo_nil))
      (ds_cons (ds_fldS (pv 0) (de_callTy (call_listA rfl) s_listA rfl E.b_list bt_list (da_cons (de_var (pv 4)) da_nil rfl) (by decide +kernel) (by decide +kernel) rfl rfl) rfl rfl (fo_cons (fo_Wheel_own_shivers E) fo_nil))
      (ds_cons (ds_fldS (pv 0) (de_var (pv 2)) rfl rfl (fo_cons (fo_Wheel_own_worn E) fo_nil))
      (ds_one (ds_fldS (pv 0) (de_lc rfl sc_Wheel___init__.nd (by exact di_range1 rfl E.b_range (da_cons (de_callB call_len s_len rfl E.b_len bt_len (da_cons (de_ix (de_var (pv 3)) de_int (fun _ _ => rfl)) da_nil rfl) (by decide +kernel) (by decide +kernel) rfl rfl) da_nil rfl) rfl) (blk_of (own := [("cell", 5)]) (by kernel_rfl)) (fun s H C cl fp => (dg_name sc_Wheel___init__.nd rfl (by first | exact .inl rfl | exact .inr rfl) (by first | exact .inr rfl | exact .inl rfl))) (fun s H C cl fp => dts_nil) (fun s H C cl fp => (de_methS (c := 0) rfl (G_Wheel_sights_at_p w base E).at hr (by decide) (by decide +kernel) (pv 0) (da_cons (de_var (pv 5)) da_nil rfl) rfl rfl rfl)) (by decide) (fun _ => rfl)) rfl rfl (fo_cons (fo_Wheel_by_cell E) fo_nil))))))))))
theorem G_Wheel___init___k10_1 (w : World) (base : Heap) (E : FX K mg) : FnA PW w K mg base (L2.CX PW w) 4 (He.ma K (He.ga K "Wheel") "__init__") ["worn"] (spStar TT K 4 (fun zs => pxV [1, 0] (zs ++ ([.non] : List V))) m_Wheel___init__) := by
  obtain ⟨fd, FD⟩ := E.d_Wheel___init__.ex
  exact init_ok (k := 3) (n2 := 2) (ix := [1, 0]) (ms := [("shivers", .non)]) FD sc_Wheel___init__ rfl (by simp) (by simp) rfl (fun dict doc pm an cdv ct u rest ws mv h1 h2 => match rest, ws, mv, h1, h2 with | [], [_], [_], _, _ => ⟨_, _, _, _, _, _, rfl, rfl, rfl⟩ | _ :: _, [_], [_], _, _ => ⟨_, _, _, _, _, _, rfl, rfl, rfl⟩) fun cdv A outer s H E2 PP hr =>
    (ds_cons (ds_expr (de_fn (G_need_tracks w base E) hr (by decide) rfl (takes_of rfl rfl rfl rfl) (da_cons (de_var (pv 3)) da_nil rfl) (by decide +kernel) rfl rfl) rfl)
      (ds_cons (ds_set sc_Wheel___init__.nd rfl (by first | exact .inl rfl | exact .inr rfl) (de_if (dt_isN (de_var (pv 1))) (de_op op_mulA s_mulA (de_lst (da_cons de_int da_nil rfl)) (de_callB call_len s_len rfl E.b_len bt_len (da_cons (de_var (pv 3)) da_nil rfl) (by decide +kernel) (by decide +kernel) rfl rfl)) (de_var (pv 1))) rfl (.inl rfl))
      (ds_cons (ds_expr (de_fn (G_need_shivers w base E) hr (by decide) rfl (takes_of rfl rfl rfl rfl) (da_cons (de_callB call_len s_len rfl E.b_len bt_len (da_cons (de_var (pv 3)) da_nil rfl) (by decide +kernel) (by decide +kernel) rfl rfl) (da_cons (de_var (pv 4)) da_nil rfl) rfl) (by decide +kernel) rfl rfl) rfl)
      (ds_cons (ds_if (dt_dw (dw_and (dt_notN (de_var (pv 2))) (dw_and1 (dt_not (dt_val (de_fn (G_is_number w base E) hr (by decide) rfl (takes_of rfl rfl rfl rfl) (da_cons (de_var (pv 2)) (da_cons de_int (da_cons (de_op op_sub s_sub (de_callB call_len s_len rfl E.b_len bt_len (da_cons (de_var (pv 3)) da_nil rfl) (by decide +kernel) (by decide +kernel) rfl rfl) de_int) da_nil rfl) rfl) rfl) (by decide +kernel) rfl rfl) (fun _ => rfl)))))) (ds_one ds_no) ds_nil)
      (ds_cons (ds_fldS (pv 0) (de_callTy (call_listA rfl) s_listA rfl E.b_list bt_list (da_cons (de_var (pv 3)) da_nil rfl) (by decide +kernel) (by decide +kernel) rfl rfl) rfl rfl (fo_cons (fo_Wheel_own_tracks E) fo_nil))
      (ds_cons (ds_fldS (pv 0) (de_callTy (call_listA rfl) s_listA rfl E.b_list bt_list (da_cons (de_var (pv 4)) da_nil rfl) (by decide +kernel) (by decide +kernel) rfl rfl) rfl rfl (fo_cons (fo_Wheel_own_shivers E) fo_nil))
      (ds_cons (ds_fldS (pv 0) (de_var (pv 2)) rfl rfl (fo_cons (fo_Wheel_own_worn E) fo_nil))
      (ds_one (ds_fldS (pv 0) (de_lc rfl sc_Wheel___init__.nd (by exact di_range1 rfl E.b_range (da_cons (de_callB call_len s_len rfl E.b_len bt_len (da_cons (de_ix (de_var (pv 3)) de_int (fun _ _ => rfl)) da_nil rfl) (by decide +kernel) (by decide +kernel) rfl rfl) da_nil rfl) rfl) (blk_of (own := [("cell", 5)]) (by kernel_rfl)) (fun s H C cl fp => (dg_name sc_Wheel___init__.nd rfl (by first | exact .inl rfl | exact .inr rfl) (by first | exact .inr rfl | exact .inl rfl))) (fun s H C cl fp => dts_nil) (fun s H C cl fp => (de_methS (c := 0) rfl (G_Wheel_sights_at_p w base E).at hr (by decide) (by decide +kernel) (pv 0) (da_cons (de_var (pv 5)) da_nil rfl) rfl rfl rfl)) (by decide) (fun _ => rfl)) rfl rfl (fo_cons (fo_Wheel_by_cell E) fo_nil))))))))))
theorem G_Wheel___init___k10_2 (w : World) (base : Heap) (E : FX K mg) : FnA PW w K mg base (L2.CX PW w) 4 (He.ma K (He.ga K "Wheel") "__init__") ["worn", "shivers"] (spStar TT K 4 (fun zs => pxV [1, 0] (zs ++ ([] : List V))) m_Wheel___init__) := by
  obtain ⟨fd, FD⟩ := E.d_Wheel___init__.ex
  exact init_ok (k := 3) (n2 := 2) (ix := [1, 0]) (ms := []) FD sc_Wheel___init__ rfl (by simp) (by simp) rfl (fun dict doc pm an cdv ct u rest ws mv h1 h2 => match rest, ws, mv, h1, h2 with | [], [_, _], [], _, _ => rfl | _ :: _, [_, _], [], _, _ => rfl) fun cdv A outer s H E2 PP hr =>
    (ds_cons (ds_expr (de_fn (G_need_tracks w base E) hr (by decide) rfl (takes_of rfl rfl rfl rfl) (da_cons (de_var (pv 3)) da_nil rfl) (by decide +kernel) rfl rfl) rfl)
      (ds_cons (ds_set sc_Wheel___init__.nd rfl (by first | exact .inl rfl | exact .inr rfl) (de_if (dt_isN (de_var (pv 1))) (de_op op_mulA s_mulA (de_lst (da_cons de_int da_nil rfl)) (de_callB call_len s_len rfl E.b_len bt_len (da_cons (de_var (pv 3)) da_nil rfl) (by decide +kernel) (by decide +kernel) rfl rfl)) (de_var (pv 1))) rfl (.inl rfl))
      (ds_cons (ds_expr (de_fn (G_need_shivers w base E) hr (by decide) rfl (takes_of rfl rfl rfl rfl) (da_cons (de_callB call_len s_len rfl E.b_len bt_len (da_cons (de_var (pv 3)) da_nil rfl) (by decide +kernel) (by decide +kernel) rfl rfl) (da_cons (de_var (pv 4)) da_nil rfl) rfl) (by decide +kernel) rfl rfl) rfl)
      (ds_cons (ds_if (dt_dw (dw_and (dt_notN (de_var (pv 2))) (dw_and1 (dt_not (dt_val (de_fn (G_is_number w base E) hr (by decide) rfl (takes_of rfl rfl rfl rfl) (da_cons (de_var (pv 2)) (da_cons de_int (da_cons (de_op op_sub s_sub (de_callB call_len s_len rfl E.b_len bt_len (da_cons (de_var (pv 3)) da_nil rfl) (by decide +kernel) (by decide +kernel) rfl rfl) de_int) da_nil rfl) rfl) rfl) (by decide +kernel) rfl rfl) (fun _ => rfl)))))) (ds_one ds_no) ds_nil)
      (ds_cons (ds_fldS (pv 0) (de_callTy (call_listA rfl) s_listA rfl E.b_list bt_list (da_cons (de_var (pv 3)) da_nil rfl) (by decide +kernel) (by decide +kernel) rfl rfl) rfl rfl (fo_cons (fo_Wheel_own_tracks E) fo_nil))
      (ds_cons (ds_fldS (pv 0) (de_callTy (call_listA rfl) s_listA rfl E.b_list bt_list (da_cons (de_var (pv 4)) da_nil rfl) (by decide +kernel) (by decide +kernel) rfl rfl) rfl rfl (fo_cons (fo_Wheel_own_shivers E) fo_nil))
      (ds_cons (ds_fldS (pv 0) (de_var (pv 2)) rfl rfl (fo_cons (fo_Wheel_own_worn E) fo_nil))
      (ds_one (ds_fldS (pv 0) (de_lc rfl sc_Wheel___init__.nd (by exact di_range1 rfl E.b_range (da_cons (de_callB call_len s_len rfl E.b_len bt_len (da_cons (de_ix (de_var (pv 3)) de_int (fun _ _ => rfl)) da_nil rfl) (by decide +kernel) (by decide +kernel) rfl rfl) da_nil rfl) rfl) (blk_of (own := [("cell", 5)]) (by kernel_rfl)) (fun s H C cl fp => (dg_name sc_Wheel___init__.nd rfl (by first | exact .inl rfl | exact .inr rfl) (by first | exact .inr rfl | exact .inl rfl))) (fun s H C cl fp => dts_nil) (fun s H C cl fp => (de_methS (c := 0) rfl (G_Wheel_sights_at_p w base E).at hr (by decide) (by decide +kernel) (pv 0) (da_cons (de_var (pv 5)) da_nil rfl) rfl rfl rfl)) (by decide) (fun _ => rfl)) rfl rfl (fo_cons (fo_Wheel_by_cell E) fo_nil))))))))))
theorem sc__law_wheel_p : FnScope ["_law_w", "_law_tracks7"] ["_law_w"] (defScope (top 31)) := ⟨rfl, rfl, rfl, by decide +kernel, rfl, by decide +kernel, by decide +kernel⟩
theorem G__law_wheel_p (w : World) (base : Heap) (E : FX K mg) : Fn PW w K mg base 6 "_law_wheel" (top 31) ["_law_w"] (spG TT K 1 m__law_wheel_p) :=
  E.d__law_wheel.fn (k := 5) sc__law_wheel_p fun f cdv A outer s H XX PP hr =>
    (ds_cons (ds_set sc__law_wheel_p.nd rfl (by first | exact .inl rfl | exact .inr rfl) (de_ixP (pv 0) (fun _ _ => rfl)) rfl (.inl rfl))
      (ds_cons (ds_if (dt_cmp (op_eqD (room_v hr)) s_eq (de_callB call_len s_len rfl E.b_len bt_len (da_cons (de_var (pv 1)) da_nil rfl) (by decide +kernel) (by decide +kernel) rfl rfl) de_int (nomark _)) (ds_one (ds_ret (de_frz (do_makeA (c := 0) (n := 2) (n2 := 2) (by decide) rfl E.d_Wheel___init__.mkr (G_Wheel___init___k01_2 w base E) rfl (fun F zs ws h => px_repsA _ (fun _ => Reps.nil) h) (room_le hr (by decide)) rfl E.d_Wheel___init__.gl (da_cons (de_ix (de_var (pv 1)) de_int (fun _ _ => rfl)) da_nil rfl) (dk_cons (de_listP rfl rfl E.b_list bt_list (pv 0) (fun _ _ => rfl) (by decide +kernel) (by decide +kernel) rfl rfl) (dk_cons (de_ixP (pv 0) (fun _ _ => rfl)) dk_nil)) rfl rfl (by decide +kernel) rfl rfl)))) ds_nil)
      (ds_cons (ds_if (dt_cmp (op_eqD (room_v hr)) s_eq (de_callB call_len s_len rfl E.b_len bt_len (da_cons (de_var (pv 1)) da_nil rfl) (by decide +kernel) (by decide +kernel) rfl rfl) de_int (nomark _)) (ds_one (ds_ret (de_frz (do_makeA (c := 0) (n := 2) (n2 := 2) (by decide) rfl E.d_Wheel___init__.mkr (G_Wheel___init___k10_2 w base E) rfl (fun F zs ws h => px_repsA _ (fun _ => Reps.nil) h) (room_le hr (by decide)) rfl E.d_Wheel___init__.gl (da_cons (de_ix (de_var (pv 1)) de_int (fun _ _ => rfl)) (da_cons (de_ix (de_var (pv 1)) de_int (fun _ _ => rfl)) da_nil rfl) rfl) (dk_cons (de_ixP (pv 0) (fun _ _ => rfl)) (dk_cons (de_listP rfl rfl E.b_list bt_list (pv 0) (fun _ _ => rfl) (by decide +kernel) (by decide +kernel) rfl rfl) dk_nil)) rfl rfl (by decide +kernel) rfl rfl)))) ds_nil)
      (ds_one (ds_ret (de_frz (do_makeA (c := 0) (n := 2) (n2 := 2) (by decide) rfl E.d_Wheel___init__.mkr (G_Wheel___init___k01_2 w base E) rfl (fun F zs ws h => px_repsA _ (fun _ => Reps.nil) h) (room_le hr (by decide)) rfl E.d_Wheel___init__.gl (da_cons (de_ix (de_var (pv 1)) de_int (fun _ _ => rfl)) (da_cons (de_ix (de_var (pv 1)) de_int (fun _ _ => rfl)) (da_cons (de_ix (de_var (pv 1)) de_int (fun _ _ => rfl)) da_nil rfl) rfl) rfl) (dk_cons (de_listP rfl rfl E.b_list bt_list (pv 0) (fun _ _ => rfl) (by decide +kernel) (by decide +kernel) rfl rfl) (dk_cons (de_ixP (pv 0) (fun _ _ => rfl)) dk_nil)) rfl rfl (by decide +kernel) rfl rfl)))))))
theorem sc__law_same : FnScope ["_law_found", "_law_due", "_law_part7", "_law_late7"] ["_law_found", "_law_due"] (defScope (top 30)) := ⟨rfl, rfl, rfl, by decide +kernel, rfl, by decide +kernel, by decide +kernel⟩
theorem G__law_same (w : World) (base : Heap) (E : FX K mg) : ∀ k, Fn PW w K mg base (0 + k) "_law_same" (top 30) ["_law_found", "_law_due"] (spG TT K 2 (m_same k))
  | 0 => E.d__law_same.never
  | k + 1 => E.d__law_same.fn (k := 0 + k) sc__law_same fun f cdv A outer s H XX PP hr => by
      have IH := G__law_same w base E k
      exact (ds_cons (ds_if (dt_val (de_isiT2 (cfOk E) (de_var (pv 1)) (cpe_b .lst rfl E.b_list bt_list (noCls_list E) (by decide +kernel) (by decide +kernel)) (cpe_b .tup rfl E.b_tuple bt_tuple (noCls_tuple E) (by decide +kernel) (by decide +kernel)) rfl E.b_isinstance bt_isinstance (by decide +kernel) (by decide +kernel) rfl rfl rfl rfl rfl) (fun _ => rfl)) (ds_cons (ds_if (dt_dw (dw_or (dt_cmp (op_neD (room_v hr)) s_ne (de_isi (cfOk E) (de_var (pv 0)) (cpe_b .lst rfl E.b_list bt_list (noCls_list E) (by decide +kernel) (by decide +kernel)) rfl E.b_isinstance bt_isinstance (by decide +kernel) (by decide +kernel) rfl rfl rfl) (de_isi (cfOk E) (de_var (pv 1)) (cpe_b .lst rfl E.b_list bt_list (noCls_list E) (by decide +kernel) (by decide +kernel)) rfl E.b_isinstance bt_isinstance (by decide +kernel) (by decide +kernel) rfl rfl rfl) (nomark _)) (dw_or1 (dt_cmp (op_neD (room_v hr)) s_ne (de_isi (cfOk E) (de_var (pv 0)) (cpe_b .tup rfl E.b_tuple bt_tuple (noCls_tuple E) (by decide +kernel) (by decide +kernel)) rfl E.b_isinstance bt_isinstance (by decide +kernel) (by decide +kernel) rfl rfl rfl) (de_isi (cfOk E) (de_var (pv 1)) (cpe_b .tup rfl E.b_tuple bt_tuple (noCls_tuple E) (by decide +kernel) (by decide +kernel)) rfl E.b_isinstance bt_isinstance (by decide +kernel) (by decide +kernel) rfl rfl rfl) (nomark _))))) (ds_one (ds_ret de_bl)) ds_nil)
      (ds_one (ds_ret (de_and (de_cmp (op_eqD (room_v hr)) s_eq (de_callB call_len s_len rfl E.b_len bt_len (da_cons (de_var (pv 0)) da_nil rfl) (by decide +kernel) (by decide +kernel) rfl rfl) (de_callB call_len s_len rfl E.b_len bt_len (da_cons (de_var (pv 1)) da_nil rfl) (by decide +kernel) (by decide +kernel) rfl rfl) (nomark _)) (de_one (de_callB (cr_all rfl) s_all rfl E.b_all bt_all (da_cons (de_lc rfl sc__law_same.nd (by exact di_zip rfl E.b_zip (da_cons (de_var (pv 0)) (da_cons (de_var (pv 1)) da_nil rfl) rfl) rfl rfl) (blk_of (own := [("_law_part7", 2), ("_law_late7", 3)]) (by kernel_rfl)) (fun s H C cl fp => (dg_tup (n := 2) rfl (dgs_cons (dg_name sc__law_same.nd rfl (by first | exact .inl rfl | exact .inr rfl) (by first | exact .inr rfl | exact .inl rfl)) (dgs_cons (dg_name sc__law_same.nd rfl (by first | exact .inl rfl | exact .inr rfl) (by first | exact .inr rfl | exact .inl rfl)) dgs_nil rfl) rfl) rfl rfl len2)) (fun s H C cl fp => dts_nil) (fun s H C cl fp => (de_fn IH hr (Nat.le_refl _) rfl takes_w0 (da_cons (de_var (pv 2)) (da_cons (de_var (pv 3)) da_nil rfl) rfl) (by decide +kernel) rfl rfl)) (by decide) (fun _ => rfl)) da_nil rfl) (by decide +kernel) (by decide +kernel) rfl rfl)))))) ds_nil)
      (ds_cons (ds_if (dt_dw (dw_or (dt_isN (de_var (pv 1))) (dw_or1 (dt_isN (de_var (pv 0)))))) (ds_one (ds_ret (de_and (de_isN (de_var (pv 1))) (de_one (de_isN (de_var (pv 0))))))) ds_nil)
      (ds_cons (ds_if (dt_dw (dw_or (dt_cmp (op_neD (room_v hr)) s_ne (de_isi (cfOk E) (de_var (pv 0)) (cpe_b .bl rfl E.b_bool bt_bool (noCls_bool E) (by decide +kernel) (by decide +kernel)) rfl E.b_isinstance bt_isinstance (by decide +kernel) (by decide +kernel) rfl rfl rfl) (de_isi (cfOk E) (de_var (pv 1)) (cpe_b .bl rfl E.b_bool bt_bool (noCls_bool E) (by decide +kernel) (by decide +kernel)) rfl E.b_isinstance bt_isinstance (by decide +kernel) (by decide +kernel) rfl rfl rfl) (nomark _)) (dw_or1 (dt_cmp (op_neD (room_v hr)) s_ne (de_isi (cfOk E) (de_var (pv 0)) (cpe_b .int rfl E.b_int bt_int (noCls_int E) (by decide +kernel) (by decide +kernel)) rfl E.b_isinstance bt_isinstance (by decide +kernel) (by decide +kernel) rfl rfl rfl) (de_isi (cfOk E) (de_var (pv 1)) (cpe_b .int rfl E.b_int bt_int (noCls_int E) (by decide +kernel) (by decide +kernel)) rfl E.b_isinstance bt_isinstance (by decide +kernel) (by decide +kernel) rfl rfl rfl) (nomark _))))) (ds_one (ds_ret de_bl)) ds_nil)
      (ds_one (ds_ret (de_and (de_cmp (op_eqD (room_v hr)) s_eq (de_isi (cfOk E) (de_var (pv 0)) (cpe_b .str rfl E.b_str bt_str (noCls_str E) (by decide +kernel) (by decide +kernel)) rfl E.b_isinstance bt_isinstance (by decide +kernel) (by decide +kernel) rfl rfl rfl) (de_isi (cfOk E) (de_var (pv 1)) (cpe_b .str rfl E.b_str bt_str (noCls_str E) (by decide +kernel) (by decide +kernel)) rfl E.b_isinstance bt_isinstance (by decide +kernel) (by decide +kernel) rfl rfl rfl) (nomark _)) (de_one (de_cmp (op_eqD (room_v hr)) s_eq (de_var (pv 0)) (de_var (pv 1)) (nomark _)))))))))
theorem sc_Wheel_size : FnScope ["self"] ["self"] (defScope (inClass (top 24) 3)) := ⟨rfl, rfl, rfl, by decide +kernel, rfl, by decide +kernel, by decide +kernel⟩
theorem G_Wheel_size (w : World) (base : Heap) (E : FX K mg) : PF PW w K mg base 1 "Wheel" "size" ["self"] (spG TT K 1 m_Wheel_size) :=
  E.d_Wheel_size.fn (k := 0) sc_Wheel_size fun f cdv A outer s H XX PP hr =>
    (ds_one (ds_ret (de_callB call_len s_len rfl E.b_len bt_len (da_cons (de_ix (de_fld (de_var (pv 0)) rfl rfl (fo_cons (fo_Wheel_own_tracks E) fo_nil)) de_int (fun _ _ => rfl)) da_nil rfl) (by decide +kernel) (by decide +kernel) rfl rfl)))
theorem sc_Wheel_many : FnScope ["self"] ["self"] (defScope (inClass (top 24) 4)) := ⟨rfl, rfl, rfl, by decide +kernel, rfl, by decide +kernel, by decide +kernel⟩
theorem G_Wheel_many (w : World) (base : Heap) (E : FX K mg) : PF PW w K mg base 1 "Wheel" "many" ["self"] (spG TT K 1 m_Wheel_many) :=
  E.d_Wheel_many.fn (k := 0) sc_Wheel_many fun f cdv A outer s H XX PP hr =>
    (ds_one (ds_ret (de_callB call_len s_len rfl E.b_len bt_len (da_cons (de_fld (de_var (pv 0)) rfl rfl (fo_cons (fo_Wheel_own_tracks E) fo_nil)) da_nil rfl) (by decide +kernel) (by decide +kernel) rfl rfl)))
theorem sc_Wheel_worn : FnScope ["self"] ["self"] (defScope (inClass (top 24) 5)) := ⟨rfl, rfl, rfl, by decide +kernel, rfl, by decide +kernel, by decide +kernel⟩
theorem G_Wheel_worn (w : World) (base : Heap) (E : FX K mg) : PF PW w K mg base 1 "Wheel" "worn" ["self"] (spG TT K 1 m_Wheel_worn) :=
  E.d_Wheel_worn.fn (k := 0) sc_Wheel_worn fun f cdv A outer s H XX PP hr =>
    (ds_one (ds_ret (de_fld (de_var (pv 0)) rfl rfl (fo_cons (fo_Wheel_own_worn E) fo_nil))))
theorem sc_Wheel_tracks : FnScope ["self"] ["self"] (defScope (inClass (top 24) 7)) := ⟨rfl, rfl, rfl, by decide +kernel, rfl, by decide +kernel, by decide +kernel⟩
theorem G_Wheel_tracks (w : World) (base : Heap) (E : FX K mg) : MF PW w K mg base 1 "Wheel" "tracks" ["self"] (spG TT K 1 m_Wheel_tracks) :=
  E.d_Wheel_tracks.fn (k := 0) sc_Wheel_tracks fun f cdv A outer s H XX PP hr =>
    (ds_one (ds_retO (do_listA rfl rfl E.b_list bt_list (da_cons (de_fld (de_var (pv 0)) rfl rfl (fo_cons (fo_Wheel_own_tracks E) fo_nil)) da_nil rfl) (by decide +kernel) (by decide +kernel) rfl rfl)))
theorem sc_Wheel_shivers : FnScope ["self"] ["self"] (defScope (inClass (top 24) 8)) := ⟨rfl, rfl, rfl, by decide +kernel, rfl, by decide +kernel, by decide +kernel⟩
theorem G_Wheel_shivers (w : World) (base : Heap) (E : FX K mg) : MF PW w K mg base 1 "Wheel" "shivers" ["self"] (spG TT K 1 m_Wheel_shivers) :=
  E.d_Wheel_shivers.fn (k := 0) sc_Wheel_shivers fun f cdv A outer s H XX PP hr =>
    (ds_one (ds_retO (do_listA rfl rfl E.b_list bt_list (da_cons (de_fld (de_var (pv 0)) rfl rfl (fo_cons (fo_Wheel_own_shivers E) fo_nil)) da_nil rfl) (by decide +kernel) (by decide +kernel) rfl rfl)))
theorem sc_Wheel___repr__ : FnScope ["self"] ["self"] (defScope (inClass (top 24) 15)) := ⟨rfl, rfl, rfl, by decide +kernel, rfl, by decide +kernel, by decide +kernel⟩
theorem G_Wheel___repr__ (w : World) (base : Heap) (E : FX K mg) : MF PW w K mg base 3 "Wheel" "__repr__" ["self"] (spG TT K 1 m_Wheel___repr__) :=
  E.d_Wheel___repr__.fn (k := 2) sc_Wheel___repr__ fun f cdv A outer s H XX PP hr =>
    (ds_one (ds_ret (de_joined (dj_cons (de_str [87, 104, 101, 101, 108, 40] (by decide +kernel)) (dj_cons (de_fmt (de_prop (c := 0) rfl (G_Wheel_size w base E).at hr (by decide) (by decide +kernel) (de_var (pv 0)) rfl)) (dj_cons (de_str [32, 99, 101, 108, 108, 115, 44, 32] (by decide +kernel)) (dj_cons (de_fmt (de_prop (c := 0) rfl (G_Wheel_many w base E).at hr (by decide) (by decide +kernel) (de_var (pv 0)) rfl)) (dj_cons (de_str [32, 116, 114, 97, 99, 107, 115, 41] (by decide +kernel)) dj_nil))))))))
theorem sc__law_wheel_text : FnScope ["_law_w", "_law_words", "_law_one"] ["_law_w"] (defScope (top 34)) := ⟨rfl, rfl, rfl, by decide +kernel, rfl, by decide +kernel, by decide +kernel⟩
theorem G__law_wheel_text (w : World) (base : Heap) (E : FX K mg) : Fn PW w K mg base 1 "_law_wheel_text" (top 34) ["_law_w"] (spG TT K 1 m__law_wheel_text) :=
  E.d__law_wheel_text.fn (k := 0) sc__law_wheel_text fun f cdv A outer s H XX PP hr =>
    (ds_cons (ds_set sc__law_wheel_text.nd rfl (by first | exact .inl rfl | exact .inr rfl) (de_op op_addAll s_add (de_op op_addAll s_add (de_op op_addAll s_add (de_lst (da_cons (de_str [119, 104, 101, 101, 108] (by decide +kernel)) da_nil rfl)) (de_ix (de_var (pv 0)) de_int (fun _ _ => rfl))) (de_lst (da_cons (de_str [115, 104, 105, 118, 101, 114] (by decide +kernel)) da_nil rfl))) (de_lc rfl sc__law_wheel_text.nd (by exact di_seq (de_ix (de_var (pv 0)) de_int (fun _ _ => rfl))) (blk_of (own := [("_law_one", 2)]) (by kernel_rfl)) (fun s H C cl fp => (dg_name sc__law_wheel_text.nd rfl (by first | exact .inl rfl | exact .inr rfl) (by first | exact .inr rfl | exact .inl rfl))) (fun s H C cl fp => dts_nil) (fun s H C cl fp => (de_callTy call_str_all s_str rfl E.b_str bt_str (da_cons (de_var (pv 2)) da_nil rfl) (by decide +kernel) (by decide +kernel) rfl rfl)) (by decide) (fun _ => rfl))) rfl (.inl rfl))
      (ds_one (ds_ret (de_join (de_str [32] (by decide +kernel)) (de_op op_addAll s_add (de_var (pv 1)) (de_lst (da_cons (de_str [119, 111, 114, 110] (by decide +kernel)) (da_cons (de_if (dt_isN (de_ix (de_var (pv 0)) de_int (fun _ _ => rfl))) (de_str [45] (by decide +kernel)) (de_callTy call_str_all s_str rfl E.b_str bt_str (da_cons (de_ix (de_var (pv 0)) de_int (fun _ _ => rfl)) da_nil rfl) (by decide +kernel) (by decide +kernel) rfl rfl)) da_nil rfl) rfl))) rfl rfl rfl))))
theorem sc__law_wheel : FnScope ["_law_w", "_law_tracks7"] ["_law_w"] (defScope (top 31)) := ⟨rfl, rfl, rfl, by decide +kernel, rfl, by decide +kernel, by decide +kernel⟩
theorem G__law_wheel (w : World) (base : Heap) (E : FX K mg) : Fn PW w K mg base 6 "_law_wheel" (top 31) ["_law_w"] (spG TT K 1 m__law_wheel) :=
  E.d__law_wheel.fn (k := 5) sc__law_wheel fun f cdv A outer s H XX PP hr =>
    (ds_cons (ds_set sc__law_wheel.nd rfl (by first | exact .inl rfl | exact .inr rfl) (de_ix (de_var (pv 0)) de_int (fun _ _ => rfl)) rfl (.inl rfl))
      (ds_cons (ds_if (dt_cmp (op_eqD (room_v hr)) s_eq (de_callB call_len s_len rfl E.b_len bt_len (da_cons (de_var (pv 1)) da_nil rfl) (by decide +kernel) (by decide +kernel) rfl rfl) de_int (nomark _)) (ds_one (ds_ret (de_frz (do_makeA (c := 0) (n := 2) (n2 := 2) (by decide) rfl E.d_Wheel___init__.mkr (G_Wheel___init___k01_2 w base E) rfl (fun F zs ws h => px_repsA _ (fun _ => Reps.nil) h) (room_le hr (by decide)) rfl E.d_Wheel___init__.gl (da_cons (de_ix (de_var (pv 1)) de_int (fun _ _ => rfl)) da_nil rfl) (dk_cons (de_callTy (call_listA rfl) s_listA rfl E.b_list bt_list (da_cons (de_ix (de_var (pv 0)) de_int (fun _ _ => rfl)) da_nil rfl) (by decide +kernel) (by decide +kernel) rfl rfl) (dk_cons (de_ix (de_var (pv 0)) de_int (fun _ _ => rfl)) dk_nil)) rfl rfl (by decide +kernel) rfl rfl)))) ds_nil)
      (ds_cons (ds_if (dt_cmp (op_eqD (room_v hr)) s_eq (de_callB call_len s_len rfl E.b_len bt_len (da_cons (de_var (pv 1)) da_nil rfl) (by decide +kernel) (by decide +kernel) rfl rfl) de_int (nomark _)) (ds_one (ds_ret (de_frz (do_makeA (c := 0) (n := 2) (n2 := 2) (by decide) rfl E.d_Wheel___init__.mkr (G_Wheel___init___k10_2 w base E) rfl (fun F zs ws h => px_repsA _ (fun _ => Reps.nil) h) (room_le hr (by decide)) rfl E.d_Wheel___init__.gl (da_cons (de_ix (de_var (pv 1)) de_int (fun _ _ => rfl)) (da_cons (de_ix (de_var (pv 1)) de_int (fun _ _ => rfl)) da_nil rfl) rfl) (dk_cons (de_ix (de_var (pv 0)) de_int (fun _ _ => rfl)) (dk_cons (de_callTy (call_listA rfl) s_listA rfl E.b_list bt_list (da_cons (de_ix (de_var (pv 0)) de_int (fun _ _ => rfl)) da_nil rfl) (by decide +kernel) (by decide +kernel) rfl rfl) dk_nil)) rfl rfl (by decide +kernel) rfl rfl)))) ds_nil)
      (ds_one (ds_ret (de_frz (do_makeA (c := 0) (n := 2) (n2 := 2) (by decide) rfl E.d_Wheel___init__.mkr (G_Wheel___init___k01_2 w base E) rfl (fun F zs ws h => px_repsA _ (fun _ => Reps.nil) h) (room_le hr (by decide)) rfl E.d_Wheel___init__.gl (da_cons (de_ix (de_var (pv 1)) de_int (fun _ _ => rfl)) (da_cons (de_ix (de_var (pv 1)) de_int (fun _ _ => rfl)) (da_cons (de_ix (de_var (pv 1)) de_int (fun _ _ => rfl)) da_nil rfl) rfl) rfl) (dk_cons (de_callTy (call_listA rfl) s_listA rfl E.b_list bt_list (da_cons (de_ix (de_var (pv 0)) de_int (fun _ _ => rfl)) da_nil rfl) (by decide +kernel) (by decide +kernel) rfl rfl) (dk_cons (de_ix (de_var (pv 0)) de_int (fun _ _ => rfl)) dk_nil)) rfl rfl (by decide +kernel) rfl rfl)))))))
theorem sc__law_plainly : FnScope ["_law_tracks7"] ["_law_tracks7"] (defScope (top 35)) := ⟨rfl, rfl, rfl, by decide +kernel, rfl, by decide +kernel, by decide +kernel⟩
theorem G__law_plainly (w : World) (base : Heap) (E : FX K mg) : Fn PW w K mg base 6 "_law_plainly" (top 35) ["_law_tracks7"] (spG TT K 1 m__law_plainly) :=
  E.d__law_plainly.fn (k := 5) sc__law_plainly fun f cdv A outer s H XX PP hr =>
    (ds_cons (ds_if (dt_cmp (op_eqD (room_v hr)) s_eq (de_callB call_len s_len rfl E.b_len bt_len (da_cons (de_var (pv 0)) da_nil rfl) (by decide +kernel) (by decide +kernel) rfl rfl) de_int (nomark _)) (ds_one (ds_ret (de_frz (do_makeA (c := 0) (n := 0) (n2 := 2) (by decide) rfl E.d_Wheel___init__.mkr (G_Wheel___init___k01_0 w base E) rfl (fun F zs ws h => px_repsA _ (fun _ => (Reps.cons rep_non (Reps.cons rep_non Reps.nil))) h) (room_le hr (by decide)) rfl E.d_Wheel___init__.gl (da_cons (de_ix (de_var (pv 0)) de_int (fun _ _ => rfl)) da_nil rfl) dk_nil rfl rfl (by decide +kernel) rfl rfl)))) ds_nil)
      (ds_one (ds_ret (de_if (dt_cmp (op_eqD (room_v hr)) s_eq (de_callB call_len s_len rfl E.b_len bt_len (da_cons (de_var (pv 0)) da_nil rfl) (by decide +kernel) (by decide +kernel) rfl rfl) de_int (nomark _)) (de_frz (do_makeA (c := 0) (n := 0) (n2 := 2) (by decide) rfl E.d_Wheel___init__.mkr (G_Wheel___init___k01_0 w base E) rfl (fun F zs ws h => px_repsA _ (fun _ => (Reps.cons rep_non (Reps.cons rep_non Reps.nil))) h) (room_le hr (by decide)) rfl E.d_Wheel___init__.gl (da_cons (de_ix (de_var (pv 0)) de_int (fun _ _ => rfl)) (da_cons (de_ix (de_var (pv 0)) de_int (fun _ _ => rfl)) da_nil rfl) rfl) dk_nil rfl rfl (by decide +kernel) rfl rfl)) (de_frz (do_makeA (c := 0) (n := 0) (n2 := 2) (by decide) rfl E.d_Wheel___init__.mkr (G_Wheel___init___k01_0 w base E) rfl (fun F zs ws h => px_repsA _ (fun _ => (Reps.cons rep_non (Reps.cons rep_non Reps.nil))) h) (room_le hr (by decide)) rfl E.d_Wheel___init__.gl (da_cons (de_ix (de_var (pv 0)) de_int (fun _ _ => rfl)) (da_cons (de_ix (de_var (pv 0)) de_int (fun _ _ => rfl)) (da_cons (de_ix (de_var (pv 0)) de_int (fun _ _ => rfl)) da_nil rfl) rfl) rfl) dk_nil rfl rfl (by decide +kernel) rfl rfl))))))
theorem sc_law : FnScope (("_law_script" : PySem.Str) :: ("_law_src" : PySem.Str) :: ("_law_turn" : PySem.Str) :: ("_law_size7" : PySem.Str) :: ("_law_many" : PySem.Str) :: ("_law_w" : PySem.Str) :: ("_law_handed" : PySem.Str) :: ("_law_made7" : PySem.Str) :: ("_law_again" : PySem.Str) :: ("_law_at" : PySem.Str) :: ("_law_other" : PySem.Str) :: ("_law_late" : PySem.Str) :: ("_law_plain" : PySem.Str) :: ("_law_told" : PySem.Str) :: ("_law_due" : PySem.Str) :: ("_law_words" : PySem.Str) :: []) ["_law_script"] (defScope (top 36)) := ⟨rfl, rfl, rfl, by decide +kernel, rfl, by decide +kernel, by decide +kernel⟩
theorem G_law (w : World) (base : Heap) (E : FX K mg) : ∃ fd, FunD K "law" "law" (defArgs (top 36)) (defBody (top 36)) (defScope (top 36)) [] [] (He.ga K "law") fd ∧ FnOk PW w K mg base (L2.CX PW w) 13 (He.ga K "law") fd ["_law_script"] (spLaw K 16 sm_law) := by
  obtain ⟨fd, FD, b⟩ := E.d_law.ex
  obtain ⟨gd, GD, GO, gb⟩ := (G__law_source w base E).ex
  refine ⟨fd, FD, law_ok (T := TT) (N := ["_law_turn", "_law_size7", "_law_many", "_law_w", "_law_handed", "_law_made7", "_law_again", "_law_at", "_law_other", "_law_late", "_law_plain", "_law_told", "_law_due", "_law_words"]) FD sc_law rfl GO (k := 12) (by decide) E.d__law_source.gl GD.kp gb (fun cdv A outer s H XX => ⟨pv 0, rfl, .inl rfl, by decide +kernel, rfl, rfl, rfl⟩) fun cdv A outer s H XX PP hr => ?_⟩
  exact (ds_cons (ds_for .leaving rfl (by exact di_range1 rfl E.b_range (da_cons de_int da_nil rfl) rfl) (dg_name sc_law.nd rfl (by first | exact .inl rfl | exact .inr rfl) (by first | exact .inr rfl | exact .inl rfl)) (ds_cons (by first | exact ds_parX2 rfl sc_law.nd rfl rfl (by decide) rfl rfl (dx_cons (de_op op_addAll s_add de_int (de_fnS (G__law_draw w base E) hr (by decide) rfl (takes_of rfl rfl rfl rfl) (pv 1) (da_cons de_int da_nil rfl) (by decide +kernel) rfl rfl)) (dx_cons (de_op op_addAll s_add de_int (de_fnS (G__law_draw w base E) hr (by decide) rfl (takes_of rfl rfl rfl rfl) (pv 1) (da_cons de_int da_nil rfl) (by decide +kernel) rfl rfl)) dx_nil rfl) rfl) rfl rfl | exact ds_parT rfl (dn_cons sc_law.nd rfl (by first | exact .inl rfl | exact .inr rfl) (by first | exact .inr rfl | exact .inl rfl) (dn_cons sc_law.nd rfl (by first | exact .inl rfl | exact .inr rfl) (by first | exact .inr rfl | exact .inl rfl) dn_nil rfl) rfl) rfl (by decide) rfl rfl (dx_cons (de_op op_addAll s_add de_int (de_fnS (G__law_draw w base E) hr (by decide) rfl (takes_of rfl rfl rfl rfl) (pv 1) (da_cons de_int da_nil rfl) (by decide +kernel) rfl rfl)) (dx_cons (de_op op_addAll s_add de_int (de_fnS (G__law_draw w base E) hr (by decide) rfl (takes_of rfl rfl rfl rfl) (pv 1) (da_cons de_int da_nil rfl) (by decide +kernel) rfl rfl)) dx_nil rfl) rfl) rfl rfl rfl)
      (ds_cons (ds_set sc_law.nd rfl (by first | exact .inl rfl | exact .inr rfl) (de_fnS (G__law_drawn_wheel w base E) hr (by decide) rfl (takes_of rfl rfl rfl rfl) (pv 1) (da_cons (de_var (pv 3)) (da_cons (de_var (pv 4)) da_nil rfl) rfl) (by decide +kernel) rfl rfl) rfl (.inl rfl))
      (ds_cons (ds_setO sc_law.nd rfl (by first | exact .inl rfl | exact .inr rfl) (do_listA rfl rfl E.b_list bt_list (da_cons (de_ix (de_var (pv 5)) de_int (fun _ _ => rfl)) da_nil rfl) (by decide +kernel) (by decide +kernel) rfl rfl) rfl (.inl rfl))
      (ds_cons (ds_set sc_law.nd rfl (by first | exact .inl rfl | exact .inr rfl) (de_callT (G__law_wheel_p w base E) hr (by decide) rfl (takes_of rfl rfl rfl rfl) (pv 6) (de_ix (de_var (pv 5)) de_int (fun _ _ => rfl)) (de_ix (de_var (pv 5)) de_int (fun _ _ => rfl)) (by decide +kernel) rfl rfl rfl rfl rfl) rfl (.inl rfl))
      (ds_cons (ds_app (pv 6) de_int rfl rfl rfl rfl rfl rfl)
      (ds_cons (ds_for .leaving rfl (by exact di_range1 rfl E.b_range (da_cons de_int da_nil rfl) rfl) (dg_name sc_law.nd rfl (by first | exact .inl rfl | exact .inr rfl) (by first | exact .inr rfl | exact .inl rfl)) (ds_cons (ds_set sc_law.nd rfl (by first | exact .inl rfl | exact .inr rfl) (de_lst (da_cons (de_prop (c := 0) rfl (G_Wheel_size w base E).at hr (by decide) (by decide +kernel) (de_var (pv 7)) rfl) (da_cons (de_prop (c := 0) rfl (G_Wheel_many w base E).at hr (by decide) (by decide +kernel) (de_var (pv 7)) rfl) (da_cons (de_prop (c := 0) rfl (G_Wheel_worn w base E).at hr (by decide) (by decide +kernel) (de_var (pv 7)) rfl) (da_cons (de_frz (do_meth0 (c := 0) rfl (G_Wheel_tracks w base E).at hr (by decide) (by decide +kernel) (de_var (pv 7)) rfl)) (da_cons (de_frz (do_meth0 (c := 0) rfl (G_Wheel_shivers w base E).at hr (by decide) (by decide +kernel) (de_var (pv 7)) rfl)) (da_cons (de_prop (c := 0) rfl (G_Wheel_text w base E).at hr (by decide) (by decide +kernel) (de_var (pv 7)) rfl) (da_cons (de_reprO (c := 0) rfl E.sp_Wheel_repr (G_Wheel___repr__ w base E).raw (room_le hr (by decide)) rfl E.b_repr bt_repr (da_cons (de_var (pv 7)) da_nil rfl) (by decide +kernel) (by decide +kernel) rfl rfl) da_nil rfl) rfl) rfl) rfl) rfl) rfl) rfl)) rfl (.inl rfl))
      (ds_cons (ds_set sc_law.nd rfl (by first | exact .inl rfl | exact .inr rfl) (de_lst (da_cons (de_var (pv 3)) (da_cons (de_var (pv 4)) (da_cons (de_ix (de_var (pv 5)) de_int (fun _ _ => rfl)) (da_cons (de_ix (de_var (pv 5)) de_int (fun _ _ => rfl)) (da_cons (de_ix (de_var (pv 5)) de_int (fun _ _ => rfl)) (da_cons (de_fn (G__law_wheel_text w base E) hr (by decide) rfl (takes_of rfl rfl rfl rfl) (da_cons (de_var (pv 5)) da_nil rfl) (by decide +kernel) rfl rfl) da_nil rfl) rfl) rfl) rfl) rfl) rfl)) rfl (.inl rfl))
      (ds_cons (ds_set sc_law.nd rfl (by first | exact .inl rfl | exact .inr rfl) (de_op op_addAll s_add (de_op op_addAll s_add (de_op op_addAll s_add (de_op op_addAll s_add (de_str [87, 104, 101, 101, 108, 40] (by decide +kernel)) (de_callTy call_str_all s_str rfl E.b_str bt_str (da_cons (de_var (pv 3)) da_nil rfl) (by decide +kernel) (by decide +kernel) rfl rfl)) (de_str [32, 99, 101, 108, 108, 115, 44, 32] (by decide +kernel))) (de_callTy call_str_all s_str rfl E.b_str bt_str (da_cons (de_var (pv 4)) da_nil rfl) (by decide +kernel) (by decide +kernel) rfl rfl)) (de_str [32, 116, 114, 97, 99, 107, 115, 41] (by decide +kernel))) rfl (.inl rfl))
      (ds_cons (ds_if (dt_not (dt_val (de_fn (G__law_same w base E 12) hr (by decide) rfl (takes_of rfl rfl rfl rfl) (da_cons (de_var (pv 13)) (da_cons (de_op op_addAll s_add (de_var (pv 14)) (de_lst (da_cons (de_var (pv 15)) da_nil rfl))) da_nil rfl) rfl) (by decide +kernel) rfl rfl) (fun _ => rfl))) (ds_one (ds_ret de_bl)) ds_nil)
      (ds_cons (ds_appT (do_meth0 (c := 0) rfl (G_Wheel_tracks w base E).at hr (by decide) (by decide +kernel) (de_var (pv 7)) rfl) (de_str [48, 49] (by decide +kernel)) rfl rfl rfl rfl rfl rfl)
      (ds_one (ds_clrT (do_meth0 (c := 0) rfl (G_Wheel_shivers w base E).at hr (by decide) (by decide +kernel) (de_var (pv 7)) rfl) rfl rfl rfl))))))) (fun _ => rfl))
      (ds_cons (ds_set sc_law.nd rfl (by first | exact .inl rfl | exact .inr rfl) (de_fnS (G__law_draw w base E) hr (by decide) rfl (takes_of rfl rfl rfl rfl) (pv 1) (da_cons (de_var (pv 4)) da_nil rfl) (by decide +kernel) rfl rfl) rfl (.inl rfl))
      (ds_cons (ds_set sc_law.nd rfl (by first | exact .inl rfl | exact .inr rfl) (de_tup (da_cons (de_op op_addAll s_add (de_op op_addAll s_add (de_slice (de_ix (de_var (pv 5)) de_int (fun _ _ => rfl)) dp_none (dp_some (de_var (pv 9)))) (de_lst (da_cons (de_fnS (G__law_marks w base E) hr (by decide) rfl (takes_of rfl rfl rfl rfl) (pv 1) (da_cons (de_var (pv 3)) da_nil rfl) (by decide +kernel) rfl rfl) da_nil rfl))) (de_slice (de_ix (de_var (pv 5)) de_int (fun _ _ => rfl)) (dp_some (de_op op_addAll s_add (de_var (pv 9)) de_int)) dp_none)) (da_cons (de_ix (de_var (pv 5)) de_int (fun _ _ => rfl)) (da_cons (de_ix (de_var (pv 5)) de_int (fun _ _ => rfl)) da_nil rfl) rfl) rfl)) rfl (.inl rfl))
      (ds_cons (ds_set sc_law.nd rfl (by first | exact .inl rfl | exact .inr rfl) (de_tup (da_cons (de_ix (de_var (pv 5)) de_int (fun _ _ => rfl)) (da_cons (de_op op_addAll s_add (de_op op_addAll s_add (de_slice (de_ix (de_var (pv 5)) de_int (fun _ _ => rfl)) dp_none (dp_some (de_var (pv 9)))) (de_lst (da_cons (de_op op_mod s_mod (de_callTy call_int1 s_int rfl E.b_int bt_int (da_cons (de_op op_addAll s_add (de_ix (de_ix (de_var (pv 5)) de_int (fun _ _ => rfl)) (de_var (pv 9)) (fun _ _ => rfl)) de_int) da_nil rfl) (by decide +kernel) (by decide +kernel) rfl rfl) de_int) da_nil rfl))) (de_slice (de_ix (de_var (pv 5)) de_int (fun _ _ => rfl)) (dp_some (de_op op_addAll s_add (de_var (pv 9)) de_int)) dp_none)) (da_cons (de_ix (de_var (pv 5)) de_int (fun _ _ => rfl)) da_nil rfl) rfl) rfl)) rfl (.inl rfl))
      (ds_cons (ds_set sc_law.nd rfl (by first | exact .inl rfl | exact .inr rfl) (de_tup (da_cons (de_ix (de_var (pv 5)) de_int (fun _ _ => rfl)) (da_cons (de_op op_mulA s_mulA (de_lst (da_cons de_int da_nil rfl)) (de_var (pv 4))) (da_cons de_non da_nil rfl) rfl) rfl)) rfl (.inl rfl))
      (ds_cons (ds_set sc_law.nd rfl (by first | exact .inl rfl | exact .inr rfl) (de_lst (da_cons (de_cmpE rfl (cfOk E) E.nf_Wheel E.ef_Wheel (G_Wheel___eq__ w base E).raw (room_le hr (by decide)) (de_var (pv 7)) (de_fn (G__law_wheel w base E) hr (by decide) rfl (takes_of rfl rfl rfl rfl) (da_cons (de_var (pv 5)) da_nil rfl) (by decide +kernel) rfl rfl) (nomark _)) (da_cons (de_cmpE rfl (cfOk E) E.nf_Wheel E.ef_Wheel (G_Wheel___eq__ w base E).raw (room_le hr (by decide)) (de_var (pv 7)) (de_fn (G__law_wheel w base E) hr (by decide) rfl (takes_of rfl rfl rfl rfl) (da_cons (de_var (pv 10)) da_nil rfl) (by decide +kernel) rfl rfl) (nomark _)) (da_cons (de_cmpE rfl (cfOk E) E.nf_Wheel E.ef_Wheel (G_Wheel___eq__ w base E).raw (room_le hr (by decide)) (de_var (pv 7)) (de_fn (G__law_wheel w base E) hr (by decide) rfl (takes_of rfl rfl rfl rfl) (da_cons (de_var (pv 11)) da_nil rfl) (by decide +kernel) rfl rfl) (nomark _)) (da_cons (de_cmpE rfl (cfOk E) E.nf_Wheel E.ef_Wheel (G_Wheel___eq__ w base E).raw (room_le hr (by decide)) (de_var (pv 7)) (de_ix (de_var (pv 5)) de_int (fun _ _ => rfl)) (nomark _)) da_nil rfl) rfl) rfl) rfl)) rfl (.inl rfl))
      (ds_cons (ds_if (dt_not (dt_val (de_fn (G__law_same w base E 12) hr (by decide) rfl (takes_of rfl rfl rfl rfl) (da_cons (de_var (pv 13)) (da_cons (de_lst (da_cons de_bl (da_cons (de_cmp (op_eqD (room_v hr)) s_eq (de_ix (de_var (pv 10)) de_int (fun _ _ => rfl)) (de_ix (de_var (pv 5)) de_int (fun _ _ => rfl)) (nomark _)) (da_cons de_bl (da_cons de_bl da_nil rfl) rfl) rfl) rfl)) da_nil rfl) rfl) (by decide +kernel) rfl rfl) (fun _ => rfl))) (ds_one (ds_ret de_bl)) ds_nil)
      (ds_one (ds_if (dt_dw (dw_or (dt_not (dt_val (de_fn (G__law_same w base E 12) hr (by decide) rfl (takes_of rfl rfl rfl rfl) (da_cons (de_cmpE rfl (cfOk E) E.nf_Wheel E.ef_Wheel (G_Wheel___eq__ w base E).raw (room_le hr (by decide)) (de_fn (G__law_plainly w base E) hr (by decide) rfl (takes_of rfl rfl rfl rfl) (da_cons (de_ix (de_var (pv 5)) de_int (fun _ _ => rfl)) da_nil rfl) (by decide +kernel) rfl rfl) (de_var (pv 7)) (nomark _)) (da_cons (de_cmp (op_eqD (room_v hr)) s_eq (de_var (pv 12)) (de_var (pv 5)) (nomark _)) da_nil rfl) rfl) (by decide +kernel) rfl rfl) (fun _ => rfl))) (dw_or1 (dt_cmp (op_neD (room_v hr)) s_ne (de_cval rfl E.g_Wheel E.cv_Wheel_MOST (by decide +kernel) rfl) de_int (nomark _))))) (ds_one (ds_ret de_bl)) ds_nil)))))))))))))) (fun _ => rfl))
      (ds_one (ds_ret (de_chain3 rfl (cfOk E) E.nf_Wheel E.ef_Wheel (G_Wheel___eq__ w base E).raw (room_le hr (by decide)) (de_frz (do_makeA (c := 0) (n := 1) (n2 := 2) (by decide) rfl E.d_Wheel___init__.mkr (G_Wheel___init___k10_1 w base E) rfl (fun F zs ws h => px_repsA _ (fun _ => (Reps.cons rep_non Reps.nil)) h) (room_le hr (by decide)) rfl E.d_Wheel___init__.gl (da_cons (de_str [48, 49] (by decide +kernel)) da_nil rfl) (dk_cons de_int dk_nil) rfl rfl (by decide +kernel) rfl rfl)) (de_frz (do_makeA (c := 0) (n := 2) (n2 := 2) (by decide) rfl E.d_Wheel___init__.mkr (G_Wheel___init___k01_2 w base E) rfl (fun F zs ws h => px_repsA _ (fun _ => Reps.nil) h) (room_le hr (by decide)) rfl E.d_Wheel___init__.gl (da_cons (de_str [48, 49] (by decide +kernel)) da_nil rfl) (dk_cons (de_lst (da_cons de_int da_nil rfl)) (dk_cons de_int dk_nil)) rfl rfl (by decide +kernel) rfl rfl)) (de_frz (do_makeA (c := 0) (n := 0) (n2 := 2) (by decide) rfl E.d_Wheel___init__.mkr (G_Wheel___init___k01_0 w base E) rfl (fun F zs ws h => px_repsA _ (fun _ => (Reps.cons rep_non (Reps.cons rep_non Reps.nil))) h) (room_le hr (by decide)) rfl E.d_Wheel___init__.gl (da_cons (de_str [48, 49] (by decide +kernel)) da_nil rfl) dk_nil rfl rfl (by decide +kernel) rfl rfl)) (de_frz (do_makeA (c := 0) (n := 2) (n2 := 2) (by decide) rfl E.d_Wheel___init__.mkr (G_Wheel___init___k10_2 w base E) rfl (fun F zs ws h => px_repsA _ (fun _ => Reps.nil) h) (room_le hr (by decide)) rfl E.d_Wheel___init__.gl (da_cons (de_str [48, 49] (by decide +kernel)) da_nil rfl) (dk_cons de_non (dk_cons de_non dk_nil)) rfl rfl (by decide +kernel) rfl rfl)) rfl))))
end
theorem fx {K : PySem.W.Frag} {h : Heap} {mg : Str → Option Value} (X : K.In h) (G : h.Ns mainGlobals mg) (c : SaysM exs fns K) : FX K mg where
  d__law_source := by
    obtain ⟨fd, F⟩ := c.def_ 0 (d := dd__law_source) rfl
    exact ⟨He.glo_ok X G (c.fact 0 rfl), fd, F, F.bindsN fun _ _ _ _ _ _ us hl => match us, hl with | [_], _ => rfl⟩
  d_Wheel_text := by
    obtain ⟨fd, F⟩ := c.def_ 1 (d := dd_Wheel_text) rfl
    exact ⟨He.cls_ok (c.fact 1 rfl), propB_ok (c.fact 2 rfl), fd, F, F.bindsN fun _ _ _ _ _ _ us hl => match us, hl with | [_], _ => rfl⟩
  d_Wheel___eq__ := by
    obtain ⟨fd, F⟩ := c.def_ 2 (d := dd_Wheel___eq__) rfl
    exact ⟨He.cls_ok (c.fact 3 rfl), He.meth_ok (c.fact 4 rfl), fd, F, F.bindsN fun _ _ _ _ _ _ us hl => match us, hl with | [_, _], _ => rfl⟩
  d__law_draw := by
    obtain ⟨fd, F⟩ := c.def_ 3 (d := dd__law_draw) rfl
    exact ⟨He.glo_ok X G (c.fact 5 rfl), fd, F, F.bindsN fun _ _ _ _ _ _ us hl => match us, hl with | [_, _], _ => rfl⟩
  d__law_of := by
    obtain ⟨fd, F⟩ := c.def_ 4 (d := dd__law_of) rfl
    exact ⟨He.glo_ok X G (c.fact 6 rfl), fd, F, F.bindsN fun _ _ _ _ _ _ us hl => match us, hl with | [_, _], _ => rfl⟩
  d__law_marks := by
    obtain ⟨fd, F⟩ := c.def_ 5 (d := dd__law_marks) rfl
    exact ⟨He.glo_ok X G (c.fact 7 rfl), fd, F, F.bindsN fun _ _ _ _ _ _ us hl => match us, hl with | [_, _], _ => rfl⟩
  d__law_turned := by
    obtain ⟨fd, F⟩ := c.def_ 6 (d := dd__law_turned) rfl
    exact ⟨He.glo_ok X G (c.fact 8 rfl), fd, F, F.bindsN fun _ _ _ _ _ _ us hl => match us, hl with | [_, _], _ => rfl⟩
  d__law_drawn_wheel := by
    obtain ⟨fd, F⟩ := c.def_ 7 (d := dd__law_drawn_wheel) rfl
    exact ⟨He.glo_ok X G (c.fact 9 rfl), fd, F, F.bindsN fun _ _ _ _ _ _ us hl => match us, hl with | [_, _, _], _ => rfl⟩
  d_is_marks := by
    obtain ⟨fd, F⟩ := c.def_ 8 (d := dd_is_marks) rfl
    exact ⟨He.glo_ok X G (c.fact 10 rfl), fd, F, F.bindsN fun _ _ _ _ _ _ us hl => match us, hl with | [_, _, _], _ => rfl⟩
  d_is_track := by
    obtain ⟨fd, F⟩ := c.def_ 9 (d := dd_is_track) rfl
    exact ⟨He.glo_ok X G (c.fact 11 rfl), fd, F, F.bindsN fun _ _ _ _ _ _ us hl => match us, hl with | [_], _ => rfl⟩
  d_need_tracks := by
    obtain ⟨fd, F⟩ := c.def_ 10 (d := dd_need_tracks) rfl
    exact ⟨He.glo_ok X G (c.fact 12 rfl), fd, F, F.bindsN fun _ _ _ _ _ _ us hl => match us, hl with | [_], _ => rfl⟩
  d_is_list := by
    obtain ⟨fd, F⟩ := c.def_ 11 (d := dd_is_list) rfl
    exact ⟨He.glo_ok X G (c.fact 13 rfl), fd, F, F.bindsN fun _ _ _ _ _ _ us hl => match us, hl with | [_], _ => rfl⟩
  d_is_number := by
    obtain ⟨fd, F⟩ := c.def_ 12 (d := dd_is_number) rfl
    exact ⟨He.glo_ok X G (c.fact 14 rfl), fd, F, F.bindsN fun _ _ _ _ _ _ us hl => match us, hl with | [_, _, _], _ => rfl⟩
  d_need_shivers := by
    obtain ⟨fd, F⟩ := c.def_ 13 (d := dd_need_shivers) rfl
    exact ⟨He.glo_ok X G (c.fact 15 rfl), fd, F, F.bindsN fun _ _ _ _ _ _ us hl => match us, hl with | [_, _], _ => rfl⟩
  d_joined := by
    obtain ⟨fd, F⟩ := c.def_ 14 (d := dd_joined) rfl
    exact ⟨He.glo_ok X G (c.fact 16 rfl), fd, F, F.bindsN fun _ _ _ _ _ _ us hl => match us, hl with | [_], _ => rfl⟩
  d_Wheel_sights_at := by
    obtain ⟨fd, F⟩ := c.def_ 15 (d := dd_Wheel_sights_at) rfl
    exact ⟨He.cls_ok (c.fact 17 rfl), He.meth_ok (c.fact 18 rfl), fd, F, F.bindsN fun _ _ _ _ _ _ us hl => match us, hl with | [_, _], _ => rfl⟩
  d_Wheel___init__ := by
    obtain ⟨fd, F⟩ := c.def_ 16 (d := dd_Wheel___init__) rfl
    exact ⟨He.glo_ok X G (c.fact 19 rfl), He.mkr_ok (c.fact 20 rfl), fd, F⟩
  d__law_wheel := by
    obtain ⟨fd, F⟩ := c.def_ 17 (d := dd__law_wheel) rfl
    exact ⟨He.glo_ok X G (c.fact 21 rfl), fd, F, F.bindsN fun _ _ _ _ _ _ us hl => match us, hl with | [_], _ => rfl⟩
  d__law_same := by
    obtain ⟨fd, F⟩ := c.def_ 18 (d := dd__law_same) rfl
    exact ⟨He.glo_ok X G (c.fact 22 rfl), fd, F, F.bindsN fun _ _ _ _ _ _ us hl => match us, hl with | [_, _], _ => rfl⟩
  d_Wheel_size := by
    obtain ⟨fd, F⟩ := c.def_ 19 (d := dd_Wheel_size) rfl
    exact ⟨He.cls_ok (c.fact 23 rfl), propB_ok (c.fact 24 rfl), fd, F, F.bindsN fun _ _ _ _ _ _ us hl => match us, hl with | [_], _ => rfl⟩
  d_Wheel_many := by
    obtain ⟨fd, F⟩ := c.def_ 20 (d := dd_Wheel_many) rfl
    exact ⟨He.cls_ok (c.fact 25 rfl), propB_ok (c.fact 26 rfl), fd, F, F.bindsN fun _ _ _ _ _ _ us hl => match us, hl with | [_], _ => rfl⟩
  d_Wheel_worn := by
    obtain ⟨fd, F⟩ := c.def_ 21 (d := dd_Wheel_worn) rfl
    exact ⟨He.cls_ok (c.fact 27 rfl), propB_ok (c.fact 28 rfl), fd, F, F.bindsN fun _ _ _ _ _ _ us hl => match us, hl with | [_], _ => rfl⟩
  d_Wheel_tracks := by
    obtain ⟨fd, F⟩ := c.def_ 22 (d := dd_Wheel_tracks) rfl
    exact ⟨He.cls_ok (c.fact 29 rfl), He.meth_ok (c.fact 30 rfl), fd, F, F.bindsN fun _ _ _ _ _ _ us hl => match us, hl with | [_], _ => rfl⟩
  d_Wheel_shivers := by
    obtain ⟨fd, F⟩ := c.def_ 23 (d := dd_Wheel_shivers) rfl
    exact ⟨He.cls_ok (c.fact 31 rfl), He.meth_ok (c.fact 32 rfl), fd, F, F.bindsN fun _ _ _ _ _ _ us hl => match us, hl with | [_], _ => rfl⟩
  d_Wheel___repr__ := by
    obtain ⟨fd, F⟩ := c.def_ 24 (d := dd_Wheel___repr__) rfl
    exact ⟨He.cls_ok (c.fact 33 rfl), He.meth_ok (c.fact 34 rfl), fd, F, F.bindsN fun _ _ _ _ _ _ us hl => match us, hl with | [_], _ => rfl⟩
  d__law_wheel_text := by
    obtain ⟨fd, F⟩ := c.def_ 25 (d := dd__law_wheel_text) rfl
    exact ⟨He.glo_ok X G (c.fact 35 rfl), fd, F, F.bindsN fun _ _ _ _ _ _ us hl => match us, hl with | [_], _ => rfl⟩
  d__law_plainly := by
    obtain ⟨fd, F⟩ := c.def_ 26 (d := dd__law_plainly) rfl
    exact ⟨He.glo_ok X G (c.fact 36 rfl), fd, F, F.bindsN fun _ _ _ _ _ _ us hl => match us, hl with | [_], _ => rfl⟩
  d_law := by
    obtain ⟨fd, F⟩ := c.def_ 27 (d := dd_law) rfl
    exact ⟨He.glo_ok X G (c.fact 37 rfl), fd, F, F.bindsN fun _ _ _ _ _ _ us hl => match us, hl with | [_], _ => rfl⟩
  b_all := He.free_ok X G (c.fact 38 rfl)
  b_bool := He.free_ok X G (c.fact 39 rfl)
  b_enumerate := He.free_ok X G (c.fact 40 rfl)
  b_int := He.free_ok X G (c.fact 41 rfl)
  b_isinstance := He.free_ok X G (c.fact 42 rfl)
  b_len := He.free_ok X G (c.fact 43 rfl)
  b_list := He.free_ok X G (c.fact 44 rfl)
  b_range := He.free_ok X G (c.fact 45 rfl)
  b_repr := He.free_ok X G (c.fact 46 rfl)
  b_str := He.free_ok X G (c.fact 47 rfl)
  b_tuple := He.free_ok X G (c.fact 48 rfl)
  b_zip := He.free_ok X G (c.fact 49 rfl)
  i_MARKS := He.str_ok X G (c.fact 50 rfl)
  i_MOST_CELLS := He.int_ok X G (c.fact 51 rfl)
  i_MOST_SHIVER := He.int_ok X G (c.fact 52 rfl)
  i_MOST_TRACKS := He.int_ok X G (c.fact 53 rfl)
  g_Wheel := He.glo_ok X G (c.fact 54 rfl)
  c_Wheel := insB_ok (c.fact 55 rfl)
  na_Wheel_by_cell := He.noat_ok (c.fact 56 rfl)
  na_Wheel_own_shivers := He.noat_ok (c.fact 57 rfl)
  na_Wheel_own_tracks := He.noat_ok (c.fact 58 rfl)
  na_Wheel_own_worn := He.noat_ok (c.fact 59 rfl)
  kt_bool := c.fact 60 rfl
  kt_int := c.fact 61 rfl
  kt_list := c.fact 62 rfl
  kt_str := c.fact 63 rfl
  kt_tuple := c.fact 64 rfl
  kb_Wheel := c.fact 65 rfl
  kc_Wheel := c.fact 66 rfl
  ef_Wheel := eqFB_ok (c.fact 67 rfl)
  nf_Wheel := nfB_ok (c.fact 68 rfl)
  cv_Wheel_MOST := cvB_ok (c.fact 69 rfl)
  sp_Wheel_repr := spFB_ok (c.fact 70 rfl)
theorem facts {w : World} {K : PySem.W.Frag} {h : Heap} {mg : Str → Option Value} {f : Addr} (X : K.In h) (G : h.Ns mainGlobals mg) (hfa : mg ("law" : Str) = some (.ref f)) (c : SaysM exs fns K) :
    ∃ fd : FuncData, (∀ (s : Shared) (v : Value), BindsTo s fd ⟨[v], []⟩ [("_law_script", v)]) ∧ ∀ base : Heap, K.In base → base.Ns mainGlobals mg → FnOk PW w K mg base L2.CX0 13 f fd ["_law_script"] (fun vs H Q _ => spLaw K 16 sm_law vs H Q fun _ _ _ => False) := by
  have E := fx X G c
  have e := hfa.symm.trans E.d_law.gl
  cases e
  obtain ⟨fd, F⟩ := c.def_ 27 (d := dd_law) rfl
  have b := FunD.bindsA (ps := ["_law_script"]) F fun _ _ _ _ _ _ us hl => match us, hl with | [_], _ => rfl
  refine ⟨fd, fun s v => b s [v] rfl, fun base h1 h2 => ?_⟩
  obtain ⟨fd2, F2, O⟩ := G_law w base E
  cases fd_same F F2
  exact fn_calm O
end DL
section
open PySem PySem.W PySem.Calls PyProof.Rows
theorem law_holds (HL : ∀ ns : List Int, ns.length ≤ 63 → DS.runLaw 16 DL.sm_law ns = some (.ok (.bl true), [])) : PySem.Challenge.rw_tracktally_k02_wheels_made.Holds := by
  w_on; o_law
  refine HandSHeadRun.head_any (r := OpenLaw.row PySem.Challenge.rw_tracktally_k02_wheels_made) (q := view (OpenLaw.row PySem.Challenge.rw_tracktally_k02_wheels_made).prog [36]) (H := DL.hk) (ob := DL.ob) (M := 16000) (loose := (("_wall" : PySem.Str) :: ("TallyError" : PySem.Str) :: ("InvalidSize" : PySem.Str) :: ("InvalidTrack" : PySem.Str) :: ("InvalidShiver" : PySem.Str) :: ("InvalidWorn" : PySem.Str) :: ("SizesDiffer" : PySem.Str) :: ("InvalidCount" : PySem.Str) :: ("TooMany" : PySem.Str) :: ("MARKS" : PySem.Str) :: ("MOST_CELLS" : PySem.Str) :: ("MOST_TRACKS" : PySem.Str) :: ("is_number" : PySem.Str) :: ("is_list" : PySem.Str) :: ("is_marks" : PySem.Str) :: ("is_track" : PySem.Str) :: ("joined" : PySem.Str) :: ("MOST_SHIVER" : PySem.Str) :: ("MOST_ROUNDS" : PySem.Str) :: ("need_tracks" : PySem.Str) :: ("need_shivers" : PySem.Str) :: ("Wheel" : PySem.Str) :: ("_law_source" : PySem.Str) :: ("_law_draw" : PySem.Str) :: ("_law_of" : PySem.Str) :: ("_law_marks" : PySem.Str) :: ("_law_same" : PySem.Str) :: ("_law_wheel" : PySem.Str) :: ("_law_drawn_wheel" : PySem.Str) :: ("_law_turned" : PySem.Str) :: ("_law_wheel_text" : PySem.Str) :: ("_law_plainly" : PySem.Str) :: [])) (d := HandSHeadRun.topDef (OpenLaw.row PySem.Challenge.rw_tracktally_k02_wheels_made).prog 36) (kwd := []) DL.ob_eq
    (by kernel_rfl) (fun s => by kernel_rfl) DL.run (by kernel_rfl) (by kernel_rfl) (by kernel_rfl) (by rfl) (by first | assumption | decide +kernel) (by decide +kernel) ⟨rfl, rfl, rfl, rfl, rfl, by decide +kernel⟩ ?hw ?hc
  case hw => w_witness2
  case hc =>
    refine L2.walk_ofE (l := PySem.Challenge.rw_tracktally_k02_wheels_made) (n := 63) (k := 13) (x := "_law_script") (CX := L2.CX0) rfl (by decide) (by kernel_rfl) ⟨rfl, by decide, by decide⟩ ?F (fun _ _ _ _ z => z)
    intro w mg fa h Y G hmg0
    obtain ⟨K, KX, c⟩ := Y
    have hmg : mg ("law" : PySem.Str) = some (.ref fa) := by
      have e : (HandSHeadRun.topDef (OpenLaw.row PySem.Challenge.rw_tracktally_k02_wheels_made).prog 36).name = ("law" : PySem.Str) := by kernel_rfl
      rw [← e]
      exact hmg0
    obtain ⟨fd, hb, hF⟩ := DL.facts (w := w) KX G hmg c
    exact ⟨K, fd, fun vs H Q _ => DS.spLaw K 16 DL.sm_law vs H Q fun _ _ _ => False, KX, hb, fun H a ns hl _ hS => ⟨a, ns, rfl, hS, HL ns hl, fun _ => rfl⟩, hF⟩
end
namespace DL
open DS
local macro_rules | `(tactic| decreasing_trivial) => `(tactic| simp only [ev_runD, ev_fin_nx, ev_fin_rt, ev_fin_ex, ev_outs_nil, ev_outs_pin, ev_outs_non, ev_outs_bl, ev_outs_int, ev_outs_str, ev_outs_tup, ev_outs_lst, ev_outs_dic, ev_outs_ins, ev_startD, ev_seqS, ev_nxS, ev_bkS, ev_ctS, ev_retN, ev_bS, ev_dropS, ev_retS, ev_retO, ev_ifS, ev_setS, ev_setO, ev_toS, ev_putS, ev_freeSl, np_none, np_own, np_pin, np_non, np_bl, np_int, np_str, np_tup, np_lst, np_dic, np_ins, sh_non, sh_bl, sh_int, sh_str, sh_tup, sh_lst, sh_dic, sh_ins, sh_own, sh_pin, ev_lift, ev_liftN, ev_bE, ev_bB, ev_bA, ev_cB, ev_cBB, ev_retB, ev_dVar, ev_dC, ev_dOp, ev_dUn, ev_toB, ev_truB, ev_notB, ev_andB, ev_orB, ev_andV, ev_orV, ev_notV, ev_ifV, ev_chainV, ev_isNonV, ev_notNonV, ev_aNil, ev_aCons, ev_aStar, ev_shs_nil, ev_shs, shs_app, ev_bL, ev_dTup, ev_dLst, ev_dCall, ev_dCallN, ev_dCallNO, ev_dFrz, frz_lst, frz_dic, frz_ins, ev_dVarF, ev_retV, ev_asgS, ev_gmName, ev_gmTup, ev_gmNil, ev_gmCons, ev_forS, ev_liftI, ev_bIE, ev_bIA, ev_iSeq, ev_seq_lst, ev_seq_tup, ev_seq_str, ev_items_lst, ev_items_tup, ev_iRange1, ev_iRange2, ev_dSlice, ev_optN, ev_optS, ev_altE, ev_isiD, ev_isiT, kd_non, kd_bl, kd_int, kd_str, kd_tup, kd_lst, kd_dic, kd_ins, tab_bb, tab_bo, tab_ob, tab_oo, cd0, cd1, cd2, cd3, cd4, cd5, cd6, tru_non, tru_bl, tru_int, tru_str, tru_lst, tru_tup, len_str, len_lst, len_tup, o_sub, o_lt, o_le, o_gt, o_ge, o_mod, o_div, o_neg, o_addI, o_addS, o_addL, o_addT, o_isB, o_notB, o_eqI, o_neI, o_eqS, o_neS, o_eqB, o_neB, o_eqNI, o_eqIN, o_inS, o_ixL, o_ixT, o_ixS, atD_0, atD_1, atD_2, atD_3, atD_4, listA_lst, listA_tup, fInt_int, ev_slIns, ev_dFldS, ev_fldS, ev_slInsPut, putFD_nil, putFD_cons, ev_oFld, ev_slLst, ev_slPut, ev_dIxS, ev_lenS, ev_appS, ev_stoS, ev_dMethS, ev_dMethSO, ev_onS, ev_callS0, ev_onC, ev_isC, ev_callM, ev_callMO, ev_dMeth, ev_dMethO, ev_dProp, ev_dMakeA, pxD_nil, pxD_cons, ev_xNil, ev_xCons, ev_xOwn, putXs_nil, putXs_sh, putXs_ow, ev_parX, ev_iEnumAD, o_mulI, o_mulL, ev_needS, ev_dCallS, ev_callS, ev_aSlot, ev_dCallB, ev_callB, lent_nil, lent_sh, lent_sl, scal_bl, ev_starM, ev_take0, ev_take1, ev_drop0, ev_drop1, ev_dCallStar, ev_dMethStar, ev_dMakeN, ev_isk_int, ev_isk_str, ev_keyT, ev_slDic, ev_slPutD, ev_dInS, ev_dPutS, ev_dicOf, ev_dGet2P, ev_aStarVals, ev_clrS, ev_clrT, List.getElem?_cons_zero, List.getElem?_cons_succ, List.getElem?_nil, List.set_cons_zero, List.set_cons_succ, List.set_nil, List.map_cons, List.map_nil, List.cons_append, List.nil_append, List.length_cons, List.length_nil, Option.map_some, Option.map_none, reduceIte, if_true, ite_true, ite_false, if_false, Bool.and_true, Bool.true_and, Bool.and_false, Bool.false_and, Bool.or_true, Bool.true_or, Bool.or_false, Bool.false_or, Bool.not_true, Bool.not_false, Bool.true_eq_false, Bool.false_eq_true, decide_true, decide_false, Nat.reduceAdd, Nat.reduceSub, Nat.reduceMul, Nat.reduceLeDiff, Nat.reduceLT, Nat.reduceEqDiff, Nat.reduceBEq, Int.reduceLT, Int.reduceLE, Int.reduceEq, Int.reduceAdd, Int.reduceSub, Int.reduceBEq, List.reduceReplicate, List.contains_cons, List.contains_nil, List.lookup_cons, Option.isSome_some, Option.isSome_none, beq_self_eq_true, bne_self_eq_false, List.all_cons, List.all_nil, List.any_cons, List.any_nil, Nat.zero_add, List.append_nil, and_true, true_and, and_self, decide_eq_true_eq, Nat.reduceDiv, Int.toNat_natCast, List.getD_cons_zero, List.getD_cons_succ, Int.cast_ofNat_Int, Int.natCast_zero, Nat.le_refl, Nat.reduceBNe, Int.reduceBNe, Bool.and_self, Bool.or_self, not_true_eq_false, not_false_eq_true, ne_eq, reduceCtorEq, *])
theorem sameOk_strL (k : Nat) {l : List (List Nat)} (h : l.length ≤ 1000) : sameOk (k + 1) (.lst (strL l)) = true := by
  unfold sameOk
  rw [strL_len, Bool.and_eq_true]
  refine ⟨decide_eq_true (by omega), ?_⟩
  unfold strL
  rw [List.all_map, List.all_eq_true]
  intro r _
  cases k <;> rfl
theorem sameOk_intL (k : Nat) {l : List Nat} (h : l.length ≤ 1000) : sameOk (k + 1) (.lst (intL l)) = true := by
  unfold sameOk intL
  rw [List.length_map, Bool.and_eq_true]
  refine ⟨decide_eq_true (by omega), ?_⟩
  rw [List.all_map, List.all_eq_true]
  intro r _
  cases k <;> rfl
theorem sameOk_opt (k : Nat) (o : Option Nat) : sameOk (k + 1) (optN o) = true := by cases o <;> rfl
def lookL (W : WM) (sz many : Nat) : List D := [.int sz, .int many, optN W.wo, .lst (strL W.tr), .lst (intL W.sh), .str (textM W), .str (reprW sz many)]
theorem same_look {W : WM} {sz many : Nat} (h : W.Ok sz many) : m_same 12 [.lst (lookL W sz many), .lst (lookL W sz many)] = some (.ok (.bl true), []) := by
  have m3 := h.m3
  refine same_refl 11 _ ?_
  show (decide ((lookL W sz many).length ≤ 16777216) && (sameOk 10 (.int sz) && (sameOk 10 (.int many) && (sameOk 10 (optN W.wo) && (sameOk 10 (.lst (strL W.tr)) && (sameOk 10 (.lst (intL W.sh)) && _)))))) = true
  rw [sameOk_opt 9, sameOk_strL 9 (by rw [h.len]; omega), sameOk_intL 9 (by rw [h.shl]; omega)]
  rfl
/-- the two looks -/
theorem look {W : WM} {sz many : Nat} (h : W.Ok sz many) {s : List D} {o2 o6 o8 o9 o10 o11 o12 o13 o14 o15 : Option D} (n8 : npin o8 = true) (n13 : npin o13 = true) (n14 : npin o14 = true) (n15 : npin o15 = true) :
    ∃ p8 p13 p14 p15, npin p8 = true ∧ npin p13 = true ∧ npin p14 = true ∧ npin p15 = true ∧ t17 [none, some (.own (.lst s)), o2, some (.int sz), some (.int many), some (encW W), o6, some (wheelD W sz), o8, o9, o10, o11, o12, o13, o14, o15] =
      some (.nx, [none, some (.own (.lst s)), o2, some (.int sz), some (.int many), some (encW W), o6, some (wheelD W sz), p8, o9, o10, o11, o12, p13, p14, p15]) := by
  have m3 := h.m3
  have s12 := h.s12
  have wz := size_ok h
  have wm := wheel_many h
  have ww := worn_ok W sz
  have wt := tracks_ok W sz
  have ws := shivers_ok W sz
  have wx := text_ok h
  have wr := repr_ok h
  have lt := law_text_ok h
  have sm := same_look h
  have f1 := str_num (n := sz) (by omega)
  have f2 := str_num (n := many) (by omega)
  have n1 := (num_at (n := sz) (by omega)).2
  have n2 := (num_at (n := many) (by omega)).2
  have x0 : oIx (encW W) (.int 0) = some (.lst (strL W.tr)) := rfl
  have x1 : oIx (encW W) (.int 1) = some (.lst (intL W.sh)) := rfl
  have x2 : oIx (encW W) (.int 2) = some (optN W.wo) := rfl
  have os := opt_sh W.wo
  have es : (encW W).sh = true := by
    obtain ⟨_, w1⟩ := encW_sh W
    rw [w1]; rfl
  have tl : (strL W.tr).length < 16777216 := by rw [strL_len, h.len]; omega
  have a1 : oAdd (.str [87, 104, 101, 101, 108, 40]) (.str (numD sz)) = some (.str ([87, 104, 101, 101, 108, 40] ++ numD sz)) := by
    have : ([87, 104, 101, 101, 108, 40] : List Nat).length + (numD sz).length ≤ 16777216 := by show 6 + (numD sz).length ≤ _; omega
    simp only [oAdd, this, if_true]
  have a2 : oAdd (.str ([87, 104, 101, 101, 108, 40] ++ numD sz)) (.str [32, 99, 101, 108, 108, 115, 44, 32]) = some (.str ([87, 104, 101, 101, 108, 40] ++ numD sz ++ [32, 99, 101, 108, 108, 115, 44, 32])) := by
    have : ([87, 104, 101, 101, 108, 40] ++ numD sz).length + ([32, 99, 101, 108, 108, 115, 44, 32] : List Nat).length ≤ 16777216 := by rw [List.length_append]; show 6 + (numD sz).length + 8 ≤ _; omega
    simp only [oAdd, this, if_true]
  have a3 : oAdd (.str ([87, 104, 101, 101, 108, 40] ++ numD sz ++ [32, 99, 101, 108, 108, 115, 44, 32])) (.str (numD many)) = some (.str ([87, 104, 101, 101, 108, 40] ++ numD sz ++ [32, 99, 101, 108, 108, 115, 44, 32] ++ numD many)) := by
    have : ([87, 104, 101, 101, 108, 40] ++ numD sz ++ [32, 99, 101, 108, 108, 115, 44, 32]).length + (numD many).length ≤ 16777216 := by rw [List.length_append, List.length_append]; show 6 + (numD sz).length + 8 + (numD many).length ≤ _; omega
    simp only [oAdd, this, if_true]
  have a4 : oAdd (.str ([87, 104, 101, 101, 108, 40] ++ numD sz ++ [32, 99, 101, 108, 108, 115, 44, 32] ++ numD many)) (.str [32, 116, 114, 97, 99, 107, 115, 41]) = some (.str (reprW sz many)) := by
    have : ([87, 104, 101, 101, 108, 40] ++ numD sz ++ [32, 99, 101, 108, 108, 115, 44, 32] ++ numD many).length + ([32, 116, 114, 97, 99, 107, 115, 41] : List Nat).length ≤ 16777216 := by rw [List.length_append, List.length_append, List.length_append]; show 6 + (numD sz).length + 8 + (numD many).length + 8 ≤ _; omega
    simp only [oAdd, this, if_true]
    rfl
  unfold lookL at sm
  obtain ⟨l1, w1⟩ : ∃ l, encW W = .tup l := ⟨_, rfl⟩
  obtain ⟨l2, w2⟩ : ∃ l, wheelD W sz = .ins 0 l := ⟨_, rfl⟩
  rw [w1] at lt x0 x1 x2 es ⊢
  rw [w2] at wz wm ww wt ws wx wr ⊢
  clear w1 w2 h m3 s12 n1 n2
  generalize reprW sz many = RR at wr sm a4
  generalize [87, 104, 101, 101, 108, 40] ++ numD (sz : Int) ++ [32, 99, 101, 108, 108, 115, 44, 32] ++ numD (many : Int) = R3 at a3 a4
  generalize [87, 104, 101, 101, 108, 40] ++ numD (sz : Int) ++ [32, 99, 101, 108, 108, 115, 44, 32] = R2 at a2 a3
  generalize [87, 104, 101, 101, 108, 40] ++ numD (sz : Int) = R1 at a1 a2
  generalize numD (sz : Int) = N1 at f1 a1
  generalize numD (many : Int) = N2 at f2 a3
  generalize textM W = TX at wx lt sm
  generalize strL W.tr = TR at wt x0 sm tl
  generalize intL W.sh = SH at ws x1 sm
  generalize optN W.wo = WO at ww x2 os sm
  generalize (sz : Int) = z at wz f1 sm ⊢
  generalize (many : Int) = mm at wm f2 sm ⊢
  have step : ∀ (i : Int) (o13 o14 o15 : Option D), npin o13 = true → npin o14 = true → npin o15 = true → seqS t16 (seqS t15 (seqS t14 (seqS t13 (seqS t11 t10)))) [none, some (.own (.lst s)), o2, some (.int z), some (.int mm), some (.tup l1), o6, some (.ins 0 l2), some (.int i), o9, o10, o11, o12, o13, o14, o15] =
      some (.nx, [none, some (.own (.lst s)), o2, some (.int z), some (.int mm), some (.tup l1), o6, some (.ins 0 l2), some (.int i), o9, o10, o11, o12, some (.lst [.int z, .int mm, WO, .lst TR, .lst SH, .str TX, .str RR]), some (.lst [.int z, .int mm, WO, .lst TR, .lst SH, .str TX]), some (.str RR)]) := by
    intro i o13 o14 o15 n13 n14 n15
    have k16 : t16 [none, some (.own (.lst s)), o2, some (.int z), some (.int mm), some (.tup l1), o6, some (.ins 0 l2), some (.int i), o9, o10, o11, o12, o13, o14, o15] = some (.nx, [none, some (.own (.lst s)), o2, some (.int z), some (.int mm), some (.tup l1), o6, some (.ins 0 l2), some (.int i), o9, o10, o11, o12, some (.lst [.int z, .int mm, WO, .lst TR, .lst SH, .str TX, .str RR]), o14, o15]) := by
      have f1 : frzD (.lst TR) = true := rfl
      have f2 : frzD (.lst SH) = true := rfl
      unfold t16 dReprO
      clear lt sm x0 x1 x2 a1 a2 a3 a4 tl n14 n15 es
      decreasing_trivial
    have k15 : t15 [none, some (.own (.lst s)), o2, some (.int z), some (.int mm), some (.tup l1), o6, some (.ins 0 l2), some (.int i), o9, o10, o11, o12, some (.lst [.int z, .int mm, WO, .lst TR, .lst SH, .str TX, .str RR]), o14, o15] = some (.nx, [none, some (.own (.lst s)), o2, some (.int z), some (.int mm), some (.tup l1), o6, some (.ins 0 l2), some (.int i), o9, o10, o11, o12, some (.lst [.int z, .int mm, WO, .lst TR, .lst SH, .str TX, .str RR]), some (.lst [.int z, .int mm, WO, .lst TR, .lst SH, .str TX]), o15]) := by
      unfold t15
      clear k16 sm wz wm ww wt ws wx wr f1 f2 a1 a2 a3 a4 tl n13 n15
      decreasing_trivial
    have k14 : t14 [none, some (.own (.lst s)), o2, some (.int z), some (.int mm), some (.tup l1), o6, some (.ins 0 l2), some (.int i), o9, o10, o11, o12, some (.lst [.int z, .int mm, WO, .lst TR, .lst SH, .str TX, .str RR]), some (.lst [.int z, .int mm, WO, .lst TR, .lst SH, .str TX]), o15] = some (.nx, [none, some (.own (.lst s)), o2, some (.int z), some (.int mm), some (.tup l1), o6, some (.ins 0 l2), some (.int i), o9, o10, o11, o12, some (.lst [.int z, .int mm, WO, .lst TR, .lst SH, .str TX, .str RR]), some (.lst [.int z, .int mm, WO, .lst TR, .lst SH, .str TX]), some (.str RR)]) := by
      unfold t14
      clear k16 k15 sm lt x0 x1 x2 wz wm ww wt ws wx wr tl n13 n14 es os
      decreasing_trivial
    have k13 : t13 [none, some (.own (.lst s)), o2, some (.int z), some (.int mm), some (.tup l1), o6, some (.ins 0 l2), some (.int i), o9, o10, o11, o12, some (.lst [.int z, .int mm, WO, .lst TR, .lst SH, .str TX, .str RR]), some (.lst [.int z, .int mm, WO, .lst TR, .lst SH, .str TX]), some (.str RR)] = some (.nx, [none, some (.own (.lst s)), o2, some (.int z), some (.int mm), some (.tup l1), o6, some (.ins 0 l2), some (.int i), o9, o10, o11, o12, some (.lst [.int z, .int mm, WO, .lst TR, .lst SH, .str TX, .str RR]), some (.lst [.int z, .int mm, WO, .lst TR, .lst SH, .str TX]), some (.str RR)]) := by
      have ad : oAdd (.lst [.int z, .int mm, WO, .lst TR, .lst SH, .str TX]) (.lst [.str RR]) = some (.lst [.int z, .int mm, WO, .lst TR, .lst SH, .str TX, .str RR]) := rfl
      unfold t13
      clear k16 k15 k14 lt x0 x1 x2 wz wm ww wt ws wx wr f1 f2 a1 a2 a3 a4 tl n13 n14 n15 es os
      decreasing_trivial
    have k11 : t11 [none, some (.own (.lst s)), o2, some (.int z), some (.int mm), some (.tup l1), o6, some (.ins 0 l2), some (.int i), o9, o10, o11, o12, some (.lst [.int z, .int mm, WO, .lst TR, .lst SH, .str TX, .str RR]), some (.lst [.int z, .int mm, WO, .lst TR, .lst SH, .str TX]), some (.str RR)] = some (.nx, [none, some (.own (.lst s)), o2, some (.int z), some (.int mm), some (.tup l1), o6, some (.ins 0 l2), some (.int i), o9, o10, o11, o12, some (.lst [.int z, .int mm, WO, .lst TR, .lst SH, .str TX, .str RR]), some (.lst [.int z, .int mm, WO, .lst TR, .lst SH, .str TX]), some (.str RR)]) := by
      unfold t11 appT
      generalize D.lst [.int z, .int mm, WO, .lst TR, .lst SH, .str TX, .str RR] = Z1
      generalize D.lst [.int z, .int mm, WO, .lst TR, .lst SH, .str TX] = Z2
      clear k16 k15 k14 k13 sm lt x0 x1 x2 wz wm ww ws wx wr f1 f2 a1 a2 a3 a4 n13 n14 n15 es os
      decreasing_trivial
    have k10 : t10 [none, some (.own (.lst s)), o2, some (.int z), some (.int mm), some (.tup l1), o6, some (.ins 0 l2), some (.int i), o9, o10, o11, o12, some (.lst [.int z, .int mm, WO, .lst TR, .lst SH, .str TX, .str RR]), some (.lst [.int z, .int mm, WO, .lst TR, .lst SH, .str TX]), some (.str RR)] = some (.nx, [none, some (.own (.lst s)), o2, some (.int z), some (.int mm), some (.tup l1), o6, some (.ins 0 l2), some (.int i), o9, o10, o11, o12, some (.lst [.int z, .int mm, WO, .lst TR, .lst SH, .str TX, .str RR]), some (.lst [.int z, .int mm, WO, .lst TR, .lst SH, .str TX]), some (.str RR)]) := by
      unfold t10 clrT
      generalize D.lst [.int z, .int mm, WO, .lst TR, .lst SH, .str TX, .str RR] = Z1
      generalize D.lst [.int z, .int mm, WO, .lst TR, .lst SH, .str TX] = Z2
      clear k16 k15 k14 k13 k11 sm lt x0 x1 x2 wz wm ww wt wx wr f1 f2 a1 a2 a3 a4 n13 n14 n15 es os tl
      decreasing_trivial
    simp only [ev_seqS, k16, k15, k14, k13, k11, k10]
  obtain ⟨e4, k, q8, q13, q14, q15, he, m8, m13, m14, m15⟩ := forM_all (gm := gmName 8) (body := seqS t16 (seqS t15 (seqS t14 (seqS t13 (seqS t11 t10)))))
    (fun e => ∃ o8 o13 o14 o15, e = [none, some (.own (.lst s)), o2, some (.int z), some (.int mm), some (.tup l1), o6, some (.ins 0 l2), o8, o9, o10, o11, o12, o13, o14, o15] ∧ npin o8 = true ∧ npin o13 = true ∧ npin o14 = true ∧ npin o15 = true) (rangeD 0 2) _ ⟨o8, o13, o14, o15, rfl, n8, n13, n14, n15⟩ (by
      intro x hx e ⟨o8, o13, o14, o15, he, n8, n13, n14, n15⟩
      subst he
      obtain ⟨i, hi, rfl⟩ := mem_range hx
      refine ⟨[none, some (.own (.lst s)), o2, some (.int z), some (.int mm), some (.tup l1), o6, some (.ins 0 l2), some (.int (0 + i)), o9, o10, o11, o12, o13, o14, o15], ?_, _, step (0 + i) o13 o14 o15 n13 n14 n15, _, _, _, _, rfl, rfl, rfl, rfl, rfl⟩
      clear step lt sm x0 x1 x2 wz wm ww wt ws wx wr f1 f2 a1 a2 a3 a4 tl es os
      decreasing_trivial)
  subst he
  refine ⟨q8, q13, q14, q15, m8, m13, m14, m15, ?_⟩
  unfold t17
  rw [ev_forS]
  exact k
theorem same_four (a b c d : Bool) : m_same 12 [.lst [.bl a, .bl b, .bl c, .bl d], .lst [.bl a, .bl b, .bl c, .bl d]] = some (.ok (.bl true), []) := same_refl 11 _ rfl
theorem same_one (a : Bool) : m_same 12 [.bl a, .bl a] = some (.ok (.bl true), []) := same_refl 11 _ rfl
/-- a wheel with another track; with another shiver; without shivers -/
def otherW (W : WM) (k : Nat) (t : List Nat) : WM := ⟨W.tr.take k ++ [t] ++ W.tr.drop (k + 1), W.sh, W.wo⟩
def lateW (W : WM) (k : Nat) : WM := ⟨W.tr, W.sh.take k ++ [(W.sh.getD k 0 + 1) % 3] ++ W.sh.drop (k + 1), W.wo⟩
def plainW (W : WM) (many : Nat) : WM := ⟨W.tr, List.replicate many 0, none⟩
theorem otherW_ok {W : WM} {sz many k : Nat} (h : W.Ok sz many) (hk : k < many) {t : List Nat} (ht : t.length = sz) (hm : marks t = true) : (otherW W k t).Ok sz many := by
  have hl := h.len
  have mem : ∀ y ∈ (otherW W k t).tr, y ∈ W.tr ∨ y = t := fun y hy => by
    unfold otherW at hy
    simp only [List.mem_append, List.mem_singleton] at hy
    rcases hy with (hy | hy) | hy
    · exact .inl (List.mem_of_mem_take hy)
    · exact .inr hy
    · exact .inl (List.mem_of_mem_drop hy)
  refine ⟨?_, h.m1, h.m3, fun y hy => ?_, fun y hy => ?_, h.s2, h.s12, h.shl, h.shv, h.wov⟩
  · unfold otherW
    simp only [List.length_append, List.length_take, List.length_drop, List.length_cons, List.length_nil]
    omega
  · rcases mem y hy with q | q
    · exact h.sl y q
    · rw [q]; exact ht
  · rcases mem y hy with q | q
    · exact h.mks y q
    · rw [q]; exact hm
theorem lateW_ok {W : WM} {sz many k : Nat} (h : W.Ok sz many) (hk : k < many) : (lateW W k).Ok sz many := by
  have hl := h.shl
  refine ⟨h.len, h.m1, h.m3, h.sl, h.mks, h.s2, h.s12, ?_, fun y hy => ?_, h.wov⟩
  · unfold lateW
    simp only [List.length_append, List.length_take, List.length_drop, List.length_cons, List.length_nil]
    omega
  · unfold lateW at hy
    simp only [List.mem_append, List.mem_singleton] at hy
    rcases hy with (hy | hy) | hy
    · exact h.shv y (List.mem_of_mem_take hy)
    · omega
    · exact h.shv y (List.mem_of_mem_drop hy)
theorem plainW_ok {W : WM} {sz many : Nat} (h : W.Ok sz many) : (plainW W many).Ok sz many := by
  refine ⟨h.len, h.m1, h.m3, h.sl, h.mks, h.s2, h.s12, by simp [plainW], fun y hy => ?_, fun i hi => by cases hi⟩
  have := List.eq_of_mem_replicate hy
  omega
theorem late_ne {W : WM} {sz many k : Nat} (h : W.Ok sz many) (hk : k < many) : ¬ W = lateW W k := by
  intro e
  have hs : k < W.sh.length := by rw [h.shl]; exact hk
  have e2 : W.sh = W.sh.take k ++ [(W.sh.getD k 0 + 1) % 3] ++ W.sh.drop (k + 1) := congrArg WM.sh e
  have e3 := congrArg (fun l => l.getD k 0) e2
  have q : (W.sh.take k ++ [(W.sh.getD k 0 + 1) % 3] ++ W.sh.drop (k + 1)).getD k 0 = (W.sh.getD k 0 + 1) % 3 := by
    rw [List.getD_eq_getElem?_getD, List.append_assoc, List.getElem?_append_right (by rw [List.length_take]; omega), List.length_take, Nat.min_eq_left (by omega), Nat.sub_self]
    rfl
  rw [q] at e3
  have hv := h.shv _ (List.getElem_mem hs)
  have : W.sh.getD k 0 = W.sh[k] := by simp [hs]
  rw [this] at e3
  omega
theorem other_dec {W : WM} {k : Nat} {t : List Nat} : decide (W = otherW W k t) = decide ((otherW W k t).tr = W.tr) := by
  rw [Bool.eq_iff_iff, decide_eq_true_eq, decide_eq_true_eq]
  constructor
  · intro e
    exact (congrArg WM.tr e).symm
  · intro e
    obtain ⟨tr, sh, wo⟩ := W
    unfold otherW at e ⊢
    simp only at e ⊢
    rw [e]
theorem strL_app (a b : List (List Nat)) : strL (a ++ b) = strL a ++ strL b := by unfold strL; rw [List.map_append]
theorem strL_take (a : List (List Nat)) (k : Nat) : strL (a.take k) = (strL a).take k := by unfold strL; rw [List.map_take]
theorem strL_drop (a : List (List Nat)) (k : Nat) : strL (a.drop k) = (strL a).drop k := by unfold strL; rw [List.map_drop]
theorem intL_app (a b : List Nat) : intL (a ++ b) = intL a ++ intL b := by unfold intL; rw [List.map_append]
theorem intL_take (a : List Nat) (k : Nat) : intL (a.take k) = (intL a).take k := by unfold intL; rw [List.map_take]
theorem intL_drop (a : List Nat) (k : Nat) : intL (a.drop k) = (intL a).drop k := by unfold intL; rw [List.map_drop]
/-- the wheels are changed and compared -/
theorem changed {W : WM} {sz many : Nat} (h : W.Ok sz many) {s : List D} (hs : DrawOk s) {o2 o6 o8 o9 o10 o11 o12 o13 o14 o15 : Option D} (n9 : npin o9 = true) (n10 : npin o10 = true) (n11 : npin o11 = true) (n12 : npin o12 = true) (n13 : npin o13 = true) :
    ∃ s' p9 p10 p11 p12 p13, DrawOk s' ∧ (npin p9 = true ∧ npin p10 = true ∧ npin p11 = true ∧ npin p12 = true ∧ npin p13 = true) ∧ seqS t9 (seqS t8 (seqS t7 (seqS t6 (seqS t5 (seqS t4 DL.t2))))) [none, some (.own (.lst s)), o2, some (.int sz), some (.int many), some (encW W), o6, some (wheelD W sz), o8, o9, o10, o11, o12, o13, o14, o15] =
      some (.nx, [none, some (.own (.lst s')), o2, some (.int sz), some (.int many), some (encW W), o6, some (wheelD W sz), o8, p9, p10, p11, p12, p13, o14, o15]) := by
  have m1 := h.m1
  have m3 := h.m3
  have s12 := h.s12
  obtain ⟨v, s1, e1, v0, v1, h1⟩ := draw_spec (n := many) hs (by omega) (by omega)
  obtain ⟨k, rfl⟩ : ∃ n : Nat, v = n := ⟨v.toNat, by omega⟩
  have hk : k < many := by omega
  obtain ⟨t, s2, e2, ht, hmt, htb, h2⟩ := marks_spec (n := sz) h1 (by omega) (by omega)
  have ht : t.length = sz := by omega
  have oo := otherW_ok h hk ht hmt
  have lo := lateW_ok h hk
  have po := plainW_ok h
  have l0 := law_wheel_ok h
  have l1 := law_wheel_ok oo
  have l2 := law_wheel_ok lo
  have lp : m__law_plainly [.lst (strL W.tr)] = some (.ok (wheelD (plainW W many) sz), []) := plainly_ok po rfl rfl
  have c0 := cmpW_ok h h false
  have c1 := cmpW_ok h oo false
  have c2 := cmpW_ok h lo false
  have c4 := cmpW_ok po h false
  have c3 := cmpW_list W sz (strL W.tr)
  rw [decide_eq_true rfl] at c0
  rw [other_dec] at c1
  rw [decide_eq_false (late_ne h hk)] at c2
  simp only [Bool.xor_false] at c0 c1 c2 c4
  have q1 := oEq_strL (otherW W k t).tr W.tr
  have q4 := oEq_encW (plainW W many) W
  have kt : k < W.tr.length := by rw [h.len]; exact hk
  have ks : k < W.sh.length := by rw [h.shl]; exact hk
  have ot : strL (otherW W k t).tr = (strL W.tr).take k ++ [.str t] ++ (strL W.tr).drop (k + 1) := by
    show strL (W.tr.take k ++ [t] ++ W.tr.drop (k + 1)) = _
    rw [strL_app, strL_app, strL_take, strL_drop]
    rfl
  have ls : intL (lateW W k).sh = (intL W.sh).take k ++ [.int (((W.sh.getD k 0 + 1) % 3 : Nat) : Int)] ++ (intL W.sh).drop (k + 1) := by
    show intL (W.sh.take k ++ [(W.sh.getD k 0 + 1) % 3] ++ W.sh.drop (k + 1)) = _
    rw [intL_app, intL_app, intL_take, intL_drop]
    rfl
  have x0 : oIx (encW W) (.int 0) = some (.lst (strL W.tr)) := rfl
  have x1 : oIx (encW W) (.int 1) = some (.lst (intL W.sh)) := rfl
  have x2 : oIx (encW W) (.int 2) = some (optN W.wo) := rfl
  have y0 : oIx (encW (otherW W k t)) (.int 0) = some (.lst (strL (otherW W k t).tr)) := rfl
  have tl : (strL W.tr).length = many := by rw [strL_len, h.len]
  have il : (intL W.sh).length = many := by unfold intL; rw [List.length_map, h.shl]
  have ct := cut_to (xs := strL W.tr) (k := k) (by omega)
  have cf := cut_from (xs := strL W.tr) (k := k) (by omega)
  have it := cut_to (xs := intL W.sh) (k := k) (by omega)
  have if_ := cut_from (xs := intL W.sh) (k := k) (by omega)
  have ia : atD (intL W.sh) (k : Int) = some (.int (W.sh.getD k 0 : Nat)) := by
    rw [atD_nat]
    unfold intL
    simp [ks]
  have fi : fInt [.int ((W.sh.getD k 0 : Nat) + 1)] = some (.int ((W.sh.getD k 0 : Nat) + 1)) := rfl
  have md : oMod (.int ((W.sh.getD k 0 : Nat) + 1)) (.int 3) = some (.int (((W.sh.getD k 0 + 1) % 3 : Nat) : Int)) := by
    simp [oMod, oI]
  have a1 : oAdd (.lst ((strL W.tr).take k)) (.lst [.str t]) = some (.lst ((strL W.tr).take k ++ [.str t])) := by
    have := List.length_take_le k (strL W.tr)
    have : ((strL W.tr).take k).length + ([D.str t]).length ≤ 16777216 := by show _ + 1 ≤ _; omega
    simp only [oAdd, this, if_true]
  have a2 : oAdd (.lst ((strL W.tr).take k ++ [.str t])) (.lst ((strL W.tr).drop (k + 1))) = some (.lst (strL (otherW W k t).tr)) := by
    have l1 := List.length_take_le k (strL W.tr)
    have l2 : ((strL W.tr).drop (k + 1)).length ≤ many := by rw [List.length_drop]; omega
    rw [ot]
    have : ((strL W.tr).take k ++ [D.str t]).length + ((strL W.tr).drop (k + 1)).length ≤ 16777216 := by
      rw [List.length_append]; show _ + 1 + _ ≤ _; omega
    simp only [oAdd, this, if_true]
  have b1 : oAdd (.lst ((intL W.sh).take k)) (.lst [.int (((W.sh.getD k 0 + 1) % 3 : Nat) : Int)]) = some (.lst ((intL W.sh).take k ++ [.int (((W.sh.getD k 0 + 1) % 3 : Nat) : Int)])) := by
    have := List.length_take_le k (intL W.sh)
    have : ((intL W.sh).take k).length + ([D.int (((W.sh.getD k 0 + 1) % 3 : Nat) : Int)]).length ≤ 16777216 := by show _ + 1 ≤ _; omega
    simp only [oAdd, this, if_true]
  have b2 : oAdd (.lst ((intL W.sh).take k ++ [.int (((W.sh.getD k 0 + 1) % 3 : Nat) : Int)])) (.lst ((intL W.sh).drop (k + 1))) = some (.lst (intL (lateW W k).sh)) := by
    have l1 := List.length_take_le k (intL W.sh)
    have l2 : ((intL W.sh).drop (k + 1)).length ≤ many := by rw [List.length_drop]; omega
    rw [ls]
    have : ((intL W.sh).take k ++ [D.int (((W.sh.getD k 0 + 1) % 3 : Nat) : Int)]).length + ((intL W.sh).drop (k + 1)).length ≤ 16777216 := by
      rw [List.length_append]; show _ + 1 + _ ≤ _; omega
    simp only [oAdd, this, if_true]
  have mz : oMulA (.lst [.int 0]) (.int many) = some (.lst (intL (List.replicate many 0))) := by
    have : many = 1 ∨ many = 2 ∨ many = 3 := by omega
    clear h oo lo po l0 l1 l2 lp c0 c1 c2 c3 c4 q1 q4 e1 tl il v1
    rcases this with rfl | rfl | rfl <;> rfl
  have eo : encW (otherW W k t) = .tup [.lst (strL (otherW W k t).tr), .lst (intL W.sh), optN W.wo] := rfl
  have el : encW (lateW W k) = .tup [.lst (strL W.tr), .lst (intL (lateW W k).sh), optN W.wo] := rfl
  have ep : encW (plainW W many) = .tup [.lst (strL W.tr), .lst (intL (List.replicate many 0)), .non] := rfl
  have os := opt_sh W.wo
  have sh : ∀ V : WM, (encW V).sh = true := fun V => by
    obtain ⟨_, w1⟩ := encW_sh V
    rw [w1]; rfl
  have es := sh W
  have es1 := sh (otherW W k t)
  have es2 := sh (lateW W k)
  have es3 := sh (plainW W many)
  have ad : oAdd (.int (k : Int)) (.int 1) = some (.int ((k : Int) + 1)) := rfl
  have ad2 : oAdd (.int ((W.sh.getD k 0 : Nat) : Int)) (.int 1) = some (.int (((W.sh.getD k 0 : Nat) : Int) + 1)) := rfl
  obtain ⟨f1, w1⟩ : ∃ l, encW W = .tup l := ⟨_, rfl⟩
  obtain ⟨f2, w2⟩ : ∃ l, wheelD W sz = .ins 0 l := ⟨_, rfl⟩
  obtain ⟨f3, w3⟩ : ∃ l, wheelD (otherW W k t) sz = .ins 0 l := ⟨_, rfl⟩
  obtain ⟨f4, w4⟩ : ∃ l, wheelD (lateW W k) sz = .ins 0 l := ⟨_, rfl⟩
  obtain ⟨f5, w5⟩ : ∃ l, wheelD (plainW W many) sz = .ins 0 l := ⟨_, rfl⟩
  rw [w1] at l0 x0 x1 x2 q4 es ⊢
  rw [w2] at l0 c0 c1 c2 c3 c4 ⊢
  rw [w3] at l1 c1
  rw [w4] at l2 c2
  rw [w5] at lp c4
  have sm4 := same_four true (decide ((otherW W k t).tr = W.tr)) false false
  have sm1 := same_one (decide (plainW W many = W))
  generalize decide ((otherW W k t).tr = W.tr) = d1 at c1 q1 sm4
  generalize decide (plainW W many = W) = d4 at c4 q4 sm1
  have k9 : t9 [none, some (.own (.lst s)), o2, some (.int sz), some (.int many), some (.tup f1), o6, some (.ins 0 f2), o8, o9, o10, o11, o12, o13, o14, o15] = some (.nx, [none, some (.own (.lst s1)), o2, some (.int sz), some (.int many), some (.tup f1), o6, some (.ins 0 f2), o8, some (.int k), o10, o11, o12, o13, o14, o15]) := by
    unfold t9
    clear hs h1 h2 h e2 l0 l1 l2 lp c0 c1 c2 c3 c4 q1 q4 ot ls x0 x1 x2 y0 tl il ct cf it if_ ia fi md a1 a2 b1 b2 mz eo el ep w1 w2 w3 w4 w5 sm4 sm1 oo lo po v0 v1 kt ks hk m1 m3 s12 ad ad2
    decreasing_trivial
  have k8 : t8 [none, some (.own (.lst s1)), o2, some (.int sz), some (.int many), some (.tup f1), o6, some (.ins 0 f2), o8, some (.int k), o10, o11, o12, o13, o14, o15] = some (.nx, [none, some (.own (.lst s2)), o2, some (.int sz), some (.int many), some (.tup f1), o6, some (.ins 0 f2), o8, some (.int k), some (encW (otherW W k t)), o11, o12, o13, o14, o15]) := by
    rw [eo]
    unfold t8
    clear k9 hs h1 h2 h e1 l0 l1 l2 lp c0 c1 c2 c3 c4 q1 q4 ls ot y0 it if_ ia fi md b1 b2 mz eo el ep w1 w2 w3 w4 w5 sm4 sm1 oo lo po v0 v1 kt ks hk m1 m3 s12 ad2 tl il
    generalize strL (otherW W k t).tr = OT at a2 ⊢
    generalize (strL W.tr).take k ++ [D.str t] = T2 at a1 a2
    generalize (strL W.tr).take k = T1 at ct a1
    generalize (strL W.tr).drop (k + 1) = T3 at cf a2
    generalize strL W.tr = TR at x0 ct cf
    generalize intL W.sh = SH at x1 ⊢
    decreasing_trivial
  have k7 : t7 [none, some (.own (.lst s2)), o2, some (.int sz), some (.int many), some (.tup f1), o6, some (.ins 0 f2), o8, some (.int k), some (encW (otherW W k t)), o11, o12, o13, o14, o15] = some (.nx, [none, some (.own (.lst s2)), o2, some (.int sz), some (.int many), some (.tup f1), o6, some (.ins 0 f2), o8, some (.int k), some (encW (otherW W k t)), some (encW (lateW W k)), o12, o13, o14, o15]) := by
    have ix : oIx (.lst (intL W.sh)) (.int (k : Int)) = some (.int (W.sh.getD k 0 : Nat)) := ia
    rw [el]
    unfold t7
    clear k9 k8 hs h1 h2 h e1 e2 l0 l1 l2 lp c0 c1 c2 c3 c4 q1 q4 ls ot y0 ct cf a1 a2 mz eo el ep w1 w2 w3 w4 w5 sm4 sm1 oo lo po v0 v1 kt ks hk m1 m3 s12 tl il ia
    generalize intL (lateW W k).sh = OT at b2 ⊢
    generalize (((W.sh.getD k 0 + 1) % 3 : Nat) : Int) = nn at md b1 b2
    generalize ((W.sh.getD k 0 : Nat) : Int) = n0 at ix fi md ad2
    generalize (intL W.sh).take k ++ [D.int nn] = T2 at b1 b2
    generalize (intL W.sh).take k = T1 at it b1
    generalize (intL W.sh).drop (k + 1) = T3 at if_ b2
    generalize intL W.sh = SH at x1 it if_ ix
    generalize strL W.tr = TR at x0 ⊢
    generalize encW (otherW W k t) = EO
    decreasing_trivial
  have k6 : t6 [none, some (.own (.lst s2)), o2, some (.int sz), some (.int many), some (.tup f1), o6, some (.ins 0 f2), o8, some (.int k), some (encW (otherW W k t)), some (encW (lateW W k)), o12, o13, o14, o15] = some (.nx, [none, some (.own (.lst s2)), o2, some (.int sz), some (.int many), some (.tup f1), o6, some (.ins 0 f2), o8, some (.int k), some (encW (otherW W k t)), some (encW (lateW W k)), some (encW (plainW W many)), o13, o14, o15]) := by
    rw [ep]
    unfold t6
    clear k9 k8 k7 hs h1 h2 h e1 e2 l0 l1 l2 lp c0 c1 c2 c3 c4 q1 q4 ls ot y0 ct cf a1 a2 b1 b2 it if_ ia fi md eo el ep w1 w2 w3 w4 w5 sm4 sm1 oo lo po v0 v1 kt ks hk m1 m3 s12 tl il ad ad2
    generalize strL W.tr = TR at x0 ⊢
    generalize encW (otherW W k t) = EO
    generalize encW (lateW W k) = EL
    generalize intL (List.replicate many 0) = Z at mz ⊢
    decreasing_trivial
  have k5 : t5 [none, some (.own (.lst s2)), o2, some (.int sz), some (.int many), some (.tup f1), o6, some (.ins 0 f2), o8, some (.int k), some (encW (otherW W k t)), some (encW (lateW W k)), some (encW (plainW W many)), o13, o14, o15] = some (.nx, [none, some (.own (.lst s2)), o2, some (.int sz), some (.int many), some (.tup f1), o6, some (.ins 0 f2), o8, some (.int k), some (encW (otherW W k t)), some (encW (lateW W k)), some (encW (plainW W many)), some (.lst [.bl true, .bl d1, .bl false, .bl false]), o14, o15]) := by
    unfold t5
    clear k9 k8 k7 k6 hs h1 h2 h e1 e2 lp c4 q1 q4 ls ot y0 ct cf a1 a2 b1 b2 it if_ ia fi md eo el ep w1 w2 w3 w4 w5 sm4 sm1 oo lo po v0 v1 kt ks hk m1 m3 s12 tl il ad ad2 mz
    generalize strL W.tr = TR at x0 c3
    generalize encW (otherW W k t) = EO at l1 es1 ⊢
    generalize encW (lateW W k) = EL at l2 es2 ⊢
    generalize encW (plainW W many) = EP
    decreasing_trivial
  have k4 : t4 [none, some (.own (.lst s2)), o2, some (.int sz), some (.int many), some (.tup f1), o6, some (.ins 0 f2), o8, some (.int k), some (encW (otherW W k t)), some (encW (lateW W k)), some (encW (plainW W many)), some (.lst [.bl true, .bl d1, .bl false, .bl false]), o14, o15] = some (.nx, [none, some (.own (.lst s2)), o2, some (.int sz), some (.int many), some (.tup f1), o6, some (.ins 0 f2), o8, some (.int k), some (encW (otherW W k t)), some (encW (lateW W k)), some (encW (plainW W many)), some (.lst [.bl true, .bl d1, .bl false, .bl false]), o14, o15]) := by
    unfold t4
    clear k9 k8 k7 k6 k5 hs h1 h2 h e1 e2 l0 l1 l2 lp c0 c1 c2 c3 c4 q4 ls ot ct cf a1 a2 b1 b2 it if_ ia fi md eo el ep w1 w2 w3 w4 w5 sm1 oo lo po v0 v1 kt ks hk m1 m3 s12 tl il ad ad2 mz
    generalize strL (otherW W k t).tr = OT at q1 y0
    generalize strL W.tr = TR at x0 q1
    generalize encW (otherW W k t) = EO at y0 es1 ⊢
    generalize encW (lateW W k) = EL at es2 ⊢
    generalize encW (plainW W many) = EP
    decreasing_trivial
  have kk2 : DL.t2 [none, some (.own (.lst s2)), o2, some (.int sz), some (.int many), some (.tup f1), o6, some (.ins 0 f2), o8, some (.int k), some (encW (otherW W k t)), some (encW (lateW W k)), some (encW (plainW W many)), some (.lst [.bl true, .bl d1, .bl false, .bl false]), o14, o15] = some (.nx, [none, some (.own (.lst s2)), o2, some (.int sz), some (.int many), some (.tup f1), o6, some (.ins 0 f2), o8, some (.int k), some (encW (otherW W k t)), some (encW (lateW W k)), some (encW (plainW W many)), some (.lst [.bl true, .bl d1, .bl false, .bl false]), o14, o15]) := by
    have z : oNe (.int 12) (.int 12) = some (.bl false) := rfl
    unfold DL.t2
    clear k9 k8 k7 k6 k5 k4 hs h1 h2 h e1 e2 l0 l1 l2 c0 c1 c2 c3 q1 ls ot ct cf a1 a2 b1 b2 it if_ ia fi md eo el ep w1 w2 w3 w4 w5 sm4 oo lo po v0 v1 kt ks hk m1 m3 s12 tl il ad ad2 mz y0
    generalize strL W.tr = TR at x0 lp
    generalize encW (otherW W k t) = EO
    generalize encW (lateW W k) = EL
    generalize encW (plainW W many) = EP at q4 es3 ⊢
    decreasing_trivial
  refine ⟨s2, some (.int k), some (encW (otherW W k t)), some (encW (lateW W k)), some (encW (plainW W many)), some (.lst [.bl true, .bl d1, .bl false, .bl false]), h2, ⟨rfl, rfl, rfl, rfl, rfl⟩, ?_⟩
  rw [ev_seqS, k9]
  simp only
  rw [ev_seqS, k8]
  simp only
  rw [ev_seqS, k7]
  simp only
  rw [ev_seqS, k6]
  simp only
  rw [ev_seqS, k5]
  simp only
  rw [ev_seqS, k4]
  exact kk2
theorem turn {s : List D} (hs : DrawOk s) {o2 o3 o4 o5 o6 o7 o8 o9 o10 o11 o12 o13 o14 o15 : Option D} (n3 : npin o3 = true) (n4 : npin o4 = true) (n5 : npin o5 = true) (n6 : npin o6 = true) (n7 : npin o7 = true) (n8 : npin o8 = true) (n9 : npin o9 = true) (n10 : npin o10 = true) (n11 : npin o11 = true) (n12 : npin o12 = true) (n13 : npin o13 = true) (n14 : npin o14 = true) (n15 : npin o15 = true) :
    ∃ s' p3 p4 p5 p6 p7 p8 p9 p10 p11 p12 p13 p14 p15, DrawOk s' ∧ (npin p3 = true ∧ npin p4 = true ∧ npin p5 = true ∧ npin p6 = true ∧ npin p7 = true ∧ npin p8 = true ∧ npin p9 = true ∧ npin p10 = true ∧ npin p11 = true ∧ npin p12 = true ∧ npin p13 = true ∧ npin p14 = true ∧ npin p15 = true) ∧
      (seqS t22 (seqS t21 (seqS t20 (seqS t19 (seqS t18 (seqS t17 (seqS t9 (seqS t8 (seqS t7 (seqS t6 (seqS t5 (seqS t4 DL.t2)))))))))))) [none, some (.own (.lst s)), o2, o3, o4, o5, o6, o7, o8, o9, o10, o11, o12, o13, o14, o15] = some (.nx, [none, some (.own (.lst s')), o2, p3, p4, p5, p6, p7, p8, p9, p10, p11, p12, p13, p14, p15]) := by
  obtain ⟨u, s1, e1, u0, u1, h1⟩ := draw_spec (n := 11) hs (by decide) (by decide)
  obtain ⟨v, s2, e2, v0, v1, h2⟩ := draw_spec (n := 3) h1 (by decide) (by decide)
  obtain ⟨sz, hsz⟩ : ∃ A : Nat, 2 + u = (A : Int) := ⟨(2 + u).toNat, by omega⟩
  obtain ⟨many, hmn⟩ : ∃ B : Nat, 1 + v = (B : Int) := ⟨(1 + v).toNat, by omega⟩
  obtain ⟨W, s3, hW, e3, h3⟩ := drawn_wheel_ok h2 (sz := sz) (many := many) (by omega) (by omega) (by omega) (by omega)
  have lw := law_wheel_p_ok hW
  have x0 : oIx (encW W) (.int 0) = some (.lst (strL W.tr)) := rfl
  have x1 : oIx (encW W) (.int 1) = some (.lst (intL W.sh)) := rfl
  have x2 : oIx (encW W) (.int 2) = some (optN W.wo) := rfl
  have os := opt_sh W.wo
  have es : (encW W).sh = true := by
    obtain ⟨_, w1⟩ := encW_sh W
    rw [w1]; rfl
  have m3 := hW.m3
  have il : (intL W.sh).length < 16777216 := by unfold intL; rw [List.length_map, hW.shl]; omega
  have k22 : t22 [none, some (.own (.lst s)), o2, o3, o4, o5, o6, o7, o8, o9, o10, o11, o12, o13, o14, o15] = some (.nx, [none, some (.own (.lst s2)), o2, some (.int sz), some (.int many), o5, o6, o7, o8, o9, o10, o11, o12, o13, o14, o15]) := by
    have a1 : oAdd (.int 2) (.int u) = some (.int sz) := by rw [← hsz]; rfl
    have a2 : oAdd (.int 1) (.int v) = some (.int many) := by rw [← hmn]; rfl
    unfold t22
    clear hs h1 h2 h3 e3 lw hW x0 x1 x2 os es il m3 hsz hmn u0 u1 v0 v1
    simp only [ev_runD, ev_fin_nx, ev_fin_rt, ev_fin_ex, ev_outs_nil, ev_outs_pin, ev_outs_non, ev_outs_bl, ev_outs_int, ev_outs_str, ev_outs_tup, ev_outs_lst, ev_outs_dic, ev_outs_ins, ev_startD, ev_seqS, ev_nxS, ev_bkS, ev_ctS, ev_retN, ev_bS, ev_dropS, ev_retS, ev_retO, ev_ifS, ev_setS, ev_setO, ev_toS, ev_putS, ev_freeSl, np_none, np_own, np_pin, np_non, np_bl, np_int, np_str, np_tup, np_lst, np_dic, np_ins, sh_non, sh_bl, sh_int, sh_str, sh_tup, sh_lst, sh_dic, sh_ins, sh_own, sh_pin, ev_lift, ev_liftN, ev_bE, ev_bB, ev_bA, ev_cB, ev_cBB, ev_retB, ev_dVar, ev_dC, ev_dOp, ev_dUn, ev_toB, ev_truB, ev_notB, ev_andB, ev_orB, ev_andV, ev_orV, ev_notV, ev_ifV, ev_chainV, ev_isNonV, ev_notNonV, ev_aNil, ev_aCons, ev_aStar, ev_shs_nil, ev_shs, shs_app, ev_bL, ev_dTup, ev_dLst, ev_dCall, ev_dCallN, ev_dCallNO, ev_dFrz, frz_lst, frz_dic, frz_ins, ev_dVarF, ev_retV, ev_asgS, ev_gmName, ev_gmTup, ev_gmNil, ev_gmCons, ev_forS, ev_liftI, ev_bIE, ev_bIA, ev_iSeq, ev_seq_lst, ev_seq_tup, ev_seq_str, ev_items_lst, ev_items_tup, ev_iRange1, ev_iRange2, ev_dSlice, ev_optN, ev_optS, ev_altE, ev_isiD, ev_isiT, kd_non, kd_bl, kd_int, kd_str, kd_tup, kd_lst, kd_dic, kd_ins, tab_bb, tab_bo, tab_ob, tab_oo, cd0, cd1, cd2, cd3, cd4, cd5, cd6, tru_non, tru_bl, tru_int, tru_str, tru_lst, tru_tup, len_str, len_lst, len_tup, o_sub, o_lt, o_le, o_gt, o_ge, o_mod, o_div, o_neg, o_addI, o_addS, o_addL, o_addT, o_isB, o_notB, o_eqI, o_neI, o_eqS, o_neS, o_eqB, o_neB, o_eqNI, o_eqIN, o_inS, o_ixL, o_ixT, o_ixS, atD_0, atD_1, atD_2, atD_3, atD_4, listA_lst, listA_tup, fInt_int, ev_slIns, ev_dFldS, ev_fldS, ev_slInsPut, putFD_nil, putFD_cons, ev_oFld, ev_slLst, ev_slPut, ev_dIxS, ev_lenS, ev_appS, ev_stoS, ev_dMethS, ev_dMethSO, ev_onS, ev_callS0, ev_onC, ev_isC, ev_callM, ev_callMO, ev_dMeth, ev_dMethO, ev_dProp, ev_dMakeA, pxD_nil, pxD_cons, ev_xNil, ev_xCons, ev_xOwn, putXs_nil, putXs_sh, putXs_ow, ev_parX, ev_iEnumAD, o_mulI, o_mulL, ev_needS, ev_dCallS, ev_callS, ev_aSlot, ev_dCallB, ev_callB, lent_nil, lent_sh, lent_sl, scal_bl, ev_starM, ev_take0, ev_take1, ev_drop0, ev_drop1, ev_dCallStar, ev_dMethStar, ev_dMakeN, ev_isk_int, ev_isk_str, ev_keyT, ev_slDic, ev_slPutD, ev_dInS, ev_dPutS, ev_dicOf, ev_dGet2P, ev_aStarVals, ev_clrS, ev_clrT, List.getElem?_cons_zero, List.getElem?_cons_succ, List.getElem?_nil, List.set_cons_zero, List.set_cons_succ, List.set_nil, List.map_cons, List.map_nil, List.cons_append, List.nil_append, List.length_cons, List.length_nil, Option.map_some, Option.map_none, reduceIte, if_true, ite_true, ite_false, if_false, Bool.and_true, Bool.true_and, Bool.and_false, Bool.false_and, Bool.or_true, Bool.true_or, Bool.or_false, Bool.false_or, Bool.not_true, Bool.not_false, Bool.true_eq_false, Bool.false_eq_true, decide_true, decide_false, Nat.reduceAdd, Nat.reduceSub, Nat.reduceMul, Nat.reduceLeDiff, Nat.reduceLT, Nat.reduceEqDiff, Nat.reduceBEq, Int.reduceLT, Int.reduceLE, Int.reduceEq, Int.reduceAdd, Int.reduceSub, Int.reduceBEq, List.reduceReplicate, List.contains_cons, List.contains_nil, List.lookup_cons, Option.isSome_some, Option.isSome_none, beq_self_eq_true, bne_self_eq_false, List.all_cons, List.all_nil, List.any_cons, List.any_nil, Nat.zero_add, List.append_nil, and_true, true_and, and_self, decide_eq_true_eq, Nat.reduceDiv, Int.toNat_natCast, List.getD_cons_zero, List.getD_cons_succ, Int.cast_ofNat_Int, Int.natCast_zero, Nat.le_refl, Nat.reduceBNe, Int.reduceBNe, Bool.and_self, Bool.or_self, not_true_eq_false, not_false_eq_true, ne_eq, reduceCtorEq, putXs, *]
  have k21 : t21 [none, some (.own (.lst s2)), o2, some (.int sz), some (.int many), o5, o6, o7, o8, o9, o10, o11, o12, o13, o14, o15] = some (.nx, [none, some (.own (.lst s3)), o2, some (.int sz), some (.int many), some (encW W), o6, o7, o8, o9, o10, o11, o12, o13, o14, o15]) := by
    obtain ⟨l, w⟩ : ∃ l, encW W = .tup l := ⟨_, rfl⟩
    rw [w] at e3 ⊢
    unfold t21
    clear k22 hs h1 h2 h3 e1 e2 lw hW x0 x1 x2 os es il m3 hsz hmn u0 u1 v0 v1 w
    decreasing_trivial
  have k20 : t20 [none, some (.own (.lst s3)), o2, some (.int sz), some (.int many), some (encW W), o6, o7, o8, o9, o10, o11, o12, o13, o14, o15] = some (.nx, [none, some (.own (.lst s3)), o2, some (.int sz), some (.int many), some (encW W), some (.own (.lst (intL W.sh))), o7, o8, o9, o10, o11, o12, o13, o14, o15]) := by
    have fl : fListA [.lst (intL W.sh)] = some (.lst (intL W.sh)) := rfl
    unfold t20
    clear k22 k21 hs h1 h2 h3 e1 e2 e3 lw hW x0 x2 os il m3 hsz hmn u0 u1 v0 v1
    generalize intL W.sh = SH at x1 fl ⊢
    generalize encW W = EW at x1 es ⊢
    decreasing_trivial
  have k19 : t19 [none, some (.own (.lst s3)), o2, some (.int sz), some (.int many), some (encW W), some (.own (.lst (intL W.sh))), o7, o8, o9, o10, o11, o12, o13, o14, o15] = some (.nx, [none, some (.own (.lst s3)), o2, some (.int sz), some (.int many), some (encW W), some (.own (.lst (intL W.sh))), some (wheelD W sz), o8, o9, o10, o11, o12, o13, o14, o15]) := by
    have ws : (wheelD W sz).sh = true := rfl
    unfold t19 dCallT
    clear k22 k21 k20 hs h1 h2 h3 e1 e2 e3 hW x1 il m3 hsz hmn u0 u1 v0 v1
    generalize intL W.sh = SH at lw ⊢
    generalize strL W.tr = TR at x0 lw
    generalize optN W.wo = WO at x2 lw os
    generalize encW W = EW at x0 x2 es ⊢
    generalize wheelD W sz = WD at lw ws ⊢
    decreasing_trivial
  have k18 : t18 [none, some (.own (.lst s3)), o2, some (.int sz), some (.int many), some (encW W), some (.own (.lst (intL W.sh))), some (wheelD W sz), o8, o9, o10, o11, o12, o13, o14, o15] = some (.nx, [none, some (.own (.lst s3)), o2, some (.int sz), some (.int many), some (encW W), some (.own (.lst (intL W.sh ++ [.int 9]))), some (wheelD W sz), o8, o9, o10, o11, o12, o13, o14, o15]) := by
    unfold t18
    clear k22 k21 k20 k19 hs h1 h2 h3 e1 e2 e3 lw hW x0 x1 x2 os es m3 hsz hmn u0 u1 v0 v1
    generalize intL W.sh = SH at il ⊢
    generalize encW W = EW
    generalize wheelD W sz = WD
    decreasing_trivial
  obtain ⟨p8, p13, p14, p15, m8, m13, m14, m15, k17⟩ := look hW (s := s3) (o2 := o2) (o6 := some (.own (.lst (intL W.sh ++ [.int 9])))) (o9 := o9) (o10 := o10) (o11 := o11) (o12 := o12) n8 n13 n14 n15
  obtain ⟨s4, p9, p10, p11, p12, q13, h4, ⟨m9, m10, m11, m12, mq⟩, k9⟩ := changed hW h3 (o2 := o2) (o6 := some (.own (.lst (intL W.sh ++ [.int 9])))) (o8 := p8) (o14 := p14) (o15 := p15) n9 n10 n11 n12 m13
  refine ⟨s4, some (.int sz), some (.int many), some (encW W), some (.own (.lst (intL W.sh ++ [.int 9]))), some (wheelD W sz), p8, p9, p10, p11, p12, q13, p14, p15, h4, ⟨rfl, rfl, np_sh es, rfl, rfl, m8, m9, m10, m11, m12, mq, m14, m15⟩, ?_⟩
  rw [ev_seqS, k22]
  simp only
  rw [ev_seqS, k21]
  simp only
  rw [ev_seqS, k20]
  simp only
  rw [ev_seqS, k19]
  simp only
  rw [ev_seqS, k18]
  simp only
  rw [ev_seqS, k17]
  exact k9
theorem last {s : List D} {o2 o3 o4 o5 o6 o7 o8 o9 o10 o11 o12 o13 o14 o15 : Option D} : t0 [none, some (.own (.lst s)), o2, o3, o4, o5, o6, o7, o8, o9, o10, o11, o12, o13, o14, o15] = some (.rt (.bl true), [none, some (.own (.lst s)), o2, o3, o4, o5, o6, o7, o8, o9, o10, o11, o12, o13, o14, o15]) := by
  have h1 : (⟨[[48, 49]], [0], some 0⟩ : WM).Ok 2 1 := ⟨rfl, by decide, by decide, fun t ht => by simp at ht; rw [ht]; rfl, fun t ht => by simp at ht; rw [ht]; rfl, by decide, by decide, rfl, fun y hy => by simp at hy; omega, fun i hi => by cases hi; decide⟩
  have h2 : (⟨[[48, 49]], [0], none⟩ : WM).Ok 2 1 := ⟨rfl, by decide, by decide, fun t ht => by simp at ht; rw [ht]; rfl, fun t ht => by simp at ht; rw [ht]; rfl, by decide, by decide, rfl, fun y hy => by simp at hy; omega, fun i hi => by cases hi⟩
  have i1 := wheel_init0 h1 rfl
  have i2 := wheel_init h1
  have i3 := wheel_init0 h2 rfl
  have c1 := cmpW_ok h1 h1 false
  have c2 := cmpW_ok h1 h2 true
  have c3 := cmpW_ok h2 h2 false
  have b1 : (decide ((⟨[[48, 49]], [0], some 0⟩ : WM) = ⟨[[48, 49]], [0], some 0⟩) ^^ false) = true := rfl
  have b2 : (decide ((⟨[[48, 49]], [0], some 0⟩ : WM) = ⟨[[48, 49]], [0], none⟩) ^^ true) = true := rfl
  have b3 : (decide ((⟨[[48, 49]], [0], none⟩ : WM) = ⟨[[48, 49]], [0], none⟩) ^^ false) = true := rfl
  rw [b1] at c1
  rw [b2] at c2
  rw [b3] at c3
  have ws1 : (wheelD ⟨[[48, 49]], [0], some 0⟩ 2).sh = true := rfl
  have ws2 : (wheelD ⟨[[48, 49]], [0], none⟩ 2).sh = true := rfl
  change m_Wheel___init__ [.pin (.ins 0 []), .non, .int 0, .tup [.str [48, 49]]] = _ at i1
  change m_Wheel___init__ [.pin (.ins 0 []), .lst [.int 0], .int 0, .tup [.str [48, 49]]] = _ at i2
  change m_Wheel___init__ [.pin (.ins 0 []), .non, .non, .tup [.str [48, 49]]] = _ at i3
  have fz1 := wheel_sh ⟨[[48, 49]], [0], some 0⟩ 2
  have fz2 := wheel_sh ⟨[[48, 49]], [0], none⟩ 2
  obtain ⟨l1, w1, z1⟩ : ∃ l, wheelD ⟨[[48, 49]], [0], some 0⟩ 2 = .ins 0 l ∧ (l.all fun p => p.2.sh) = true := ⟨_, rfl, fz1⟩
  obtain ⟨l2, w2, z2⟩ : ∃ l, wheelD ⟨[[48, 49]], [0], none⟩ 2 = .ins 0 l ∧ (l.all fun p => p.2.sh) = true := ⟨_, rfl, fz2⟩
  rw [w1] at i1 i2 c1 c2
  rw [w2] at i3 c2 c3
  unfold t0 chain3
  clear h1 h2 b1 b2 b3 ws1 ws2 fz1 fz2 w1 w2
  simp only [ev_runD, ev_fin_nx, ev_fin_rt, ev_fin_ex, ev_outs_nil, ev_outs_pin, ev_outs_non, ev_outs_bl, ev_outs_int, ev_outs_str, ev_outs_tup, ev_outs_lst, ev_outs_dic, ev_outs_ins, ev_startD, ev_seqS, ev_nxS, ev_bkS, ev_ctS, ev_retN, ev_bS, ev_dropS, ev_retS, ev_retO, ev_ifS, ev_setS, ev_setO, ev_toS, ev_putS, ev_freeSl, np_none, np_own, np_pin, np_non, np_bl, np_int, np_str, np_tup, np_lst, np_dic, np_ins, sh_non, sh_bl, sh_int, sh_str, sh_tup, sh_lst, sh_dic, sh_ins, sh_own, sh_pin, ev_lift, ev_liftN, ev_bE, ev_bB, ev_bA, ev_cB, ev_cBB, ev_retB, ev_dVar, ev_dC, ev_dOp, ev_dUn, ev_toB, ev_truB, ev_notB, ev_andB, ev_orB, ev_andV, ev_orV, ev_notV, ev_ifV, ev_chainV, ev_isNonV, ev_notNonV, ev_aNil, ev_aCons, ev_aStar, ev_shs_nil, ev_shs, shs_app, ev_bL, ev_dTup, ev_dLst, ev_dCall, ev_dCallN, ev_dCallNO, ev_dFrz, frz_lst, frz_dic, frz_ins, ev_dVarF, ev_retV, ev_asgS, ev_gmName, ev_gmTup, ev_gmNil, ev_gmCons, ev_forS, ev_liftI, ev_bIE, ev_bIA, ev_iSeq, ev_seq_lst, ev_seq_tup, ev_seq_str, ev_items_lst, ev_items_tup, ev_iRange1, ev_iRange2, ev_dSlice, ev_optN, ev_optS, ev_altE, ev_isiD, ev_isiT, kd_non, kd_bl, kd_int, kd_str, kd_tup, kd_lst, kd_dic, kd_ins, tab_bb, tab_bo, tab_ob, tab_oo, cd0, cd1, cd2, cd3, cd4, cd5, cd6, tru_non, tru_bl, tru_int, tru_str, tru_lst, tru_tup, len_str, len_lst, len_tup, o_sub, o_lt, o_le, o_gt, o_ge, o_mod, o_div, o_neg, o_addI, o_addS, o_addL, o_addT, o_isB, o_notB, o_eqI, o_neI, o_eqS, o_neS, o_eqB, o_neB, o_eqNI, o_eqIN, o_inS, o_ixL, o_ixT, o_ixS, atD_0, atD_1, atD_2, atD_3, atD_4, listA_lst, listA_tup, fInt_int, ev_slIns, ev_dFldS, ev_fldS, ev_slInsPut, putFD_nil, putFD_cons, ev_oFld, ev_slLst, ev_slPut, ev_dIxS, ev_lenS, ev_appS, ev_stoS, ev_dMethS, ev_dMethSO, ev_onS, ev_callS0, ev_onC, ev_isC, ev_callM, ev_callMO, ev_dMeth, ev_dMethO, ev_dProp, ev_dMakeA, pxD_nil, pxD_cons, ev_xNil, ev_xCons, ev_xOwn, putXs_nil, putXs_sh, putXs_ow, ev_parX, ev_iEnumAD, o_mulI, o_mulL, ev_needS, ev_dCallS, ev_callS, ev_aSlot, ev_dCallB, ev_callB, lent_nil, lent_sh, lent_sl, scal_bl, ev_starM, ev_take0, ev_take1, ev_drop0, ev_drop1, ev_dCallStar, ev_dMethStar, ev_dMakeN, ev_isk_int, ev_isk_str, ev_keyT, ev_slDic, ev_slPutD, ev_dInS, ev_dPutS, ev_dicOf, ev_dGet2P, ev_aStarVals, ev_clrS, ev_clrT, List.getElem?_cons_zero, List.getElem?_cons_succ, List.getElem?_nil, List.set_cons_zero, List.set_cons_succ, List.set_nil, List.map_cons, List.map_nil, List.cons_append, List.nil_append, List.length_cons, List.length_nil, Option.map_some, Option.map_none, reduceIte, if_true, ite_true, ite_false, if_false, Bool.and_true, Bool.true_and, Bool.and_false, Bool.false_and, Bool.or_true, Bool.true_or, Bool.or_false, Bool.false_or, Bool.not_true, Bool.not_false, Bool.true_eq_false, Bool.false_eq_true, decide_true, decide_false, Nat.reduceAdd, Nat.reduceSub, Nat.reduceMul, Nat.reduceLeDiff, Nat.reduceLT, Nat.reduceEqDiff, Nat.reduceBEq, Int.reduceLT, Int.reduceLE, Int.reduceEq, Int.reduceAdd, Int.reduceSub, Int.reduceBEq, List.reduceReplicate, List.contains_cons, List.contains_nil, List.lookup_cons, Option.isSome_some, Option.isSome_none, beq_self_eq_true, bne_self_eq_false, List.all_cons, List.all_nil, List.any_cons, List.any_nil, Nat.zero_add, List.append_nil, and_true, true_and, and_self, decide_eq_true_eq, Nat.reduceDiv, Int.toNat_natCast, List.getD_cons_zero, List.getD_cons_succ, Int.cast_ofNat_Int, Int.natCast_zero, Nat.le_refl, Nat.reduceBNe, Int.reduceBNe, Bool.and_self, Bool.or_self, not_true_eq_false, not_false_eq_true, ne_eq, reduceCtorEq, pxD, *]
theorem plain (ns : List Int) (h : ns.length ≤ 63) : runLaw 16 sm_law ns = some (.ok (.bl true), []) := by
  refine runLaw_of fun s hs => ?_
  obtain ⟨e4, k9, s4, o2, o3, o4, o5, o6, o7, o8, o9, o10, o11, o12, o13, o14, o15, he, _⟩ := forM_all (gm := gmName 2) (body := seqS t22 (seqS t21 (seqS t20 (seqS t19 (seqS t18 (seqS t17 (seqS t9 (seqS t8 (seqS t7 (seqS t6 (seqS t5 (seqS t4 DL.t2))))))))))))
    (fun e => ∃ s o2 o3 o4 o5 o6 o7 o8 o9 o10 o11 o12 o13 o14 o15, e = [none, some (.own (.lst s)), o2, o3, o4, o5, o6, o7, o8, o9, o10, o11, o12, o13, o14, o15] ∧ DrawOk s ∧ npin o2 = true ∧ npin o3 = true ∧ npin o4 = true ∧ npin o5 = true ∧ npin o6 = true ∧ npin o7 = true ∧ npin o8 = true ∧ npin o9 = true ∧ npin o10 = true ∧ npin o11 = true ∧ npin o12 = true ∧ npin o13 = true ∧ npin o14 = true ∧ npin o15 = true) (rangeD 0 4) [none, some (.own (.lst s)), none, none, none, none, none, none, none, none, none, none, none, none, none, none] ⟨s, none, none, none, none, none, none, none, none, none, none, none, none, none, none, rfl, hs, rfl, rfl, rfl, rfl, rfl, rfl, rfl, rfl, rfl, rfl, rfl, rfl, rfl, rfl⟩ (by
      intro x hx e ⟨s, o2, o3, o4, o5, o6, o7, o8, o9, o10, o11, o12, o13, o14, o15, he, hs, n2, n3, n4, n5, n6, n7, n8, n9, n10, n11, n12, n13, n14, n15⟩
      subst he
      obtain ⟨i, hi, rfl⟩ := mem_range hx
      obtain ⟨s', q3, q4, q5, q6, q7, q8, q9, q10, q11, q12, q13, q14, q15, h', ⟨m3, m4, m5, m6, m7, m8, m9, m10, m11, m12, m13, m14, m15⟩, k⟩ := turn hs (o2 := some (.int (0 + i))) n3 n4 n5 n6 n7 n8 n9 n10 n11 n12 n13 n14 n15
      refine ⟨[none, some (.own (.lst s)), some (.int (0 + i)), o3, o4, o5, o6, o7, o8, o9, o10, o11, o12, o13, o14, o15], ?_, _, k, s', _, q3, q4, q5, q6, q7, q8, q9, q10, q11, q12, q13, q14, q15, rfl, h', rfl, m3, m4, m5, m6, m7, m8, m9, m10, m11, m12, m13, m14, m15⟩
      clear k hx
      decreasing_trivial)
  subst he
  have k23 : t23 [none, some (.own (.lst s)), none, none, none, none, none, none, none, none, none, none, none, none, none, none] = some (.nx, [none, some (.own (.lst s4)), o2, o3, o4, o5, o6, o7, o8, o9, o10, o11, o12, o13, o14, o15]) := by
    unfold t23
    rw [ev_forS]
    exact k9
  have e : sm_law [none, some (.own (.lst s)), none, none, none, none, none, none, none, none, none, none, none, none, none, none] = some (.rt (.bl true), [none, some (.own (.lst s4)), o2, o3, o4, o5, o6, o7, o8, o9, o10, o11, o12, o13, o14, o15]) := by
    unfold sm_law
    simp only [ev_seqS, k23, last]
  show wS sm_law [none, some (.own (.lst s)), none, none, none, none, none, none, none, none, none, none, none, none, none, none] _
  unfold wS
  rw [e]
end DL
theorem PySem.Challenge.cw_tracktally_k02_wheels_made_holds : PySem.Challenge.rw_tracktally_k02_wheels_made.Holds :=
  law_holds DL.plain
