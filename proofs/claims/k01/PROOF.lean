import PyProof.Rows.All
import Wide.All
import OpenK.AllK
import Wide.FinOn
import HandS.HeadHook4
import HandS.ExcInit
import HandS.EndTab
import HandS.Defaults
import HandS.WordsExc
import HandS.Head0
import HandS.Head1
import HandS.Head2
import HandS.HeadEnd
import HandS.HeadHook1
import HandS.HeadHook2
import HandS.ForMost
import KE.SortData
import KE.DataCmp
import HandS.SetFor
import HandS.Strs
import HandS.ForExc
import HandS.Star
import HandS.Lambda
import KE.KeyNested
import KE.KDictKeyed
import HandS.Walk
import HandS.Zip
import HandS.TupAny
import HandS.Deep
import HandS.IsInst
import HandS.Text
import HandS.Property
import HandS.SlotsOwn
import HandS.Style
import HandS.CallSlots
import HandS.Dict
import HandS.Iter
import HandS.DictComp
import HandS.More
import HandS.RaiseMore
import KE.KExcSuper
import HandS.ExcValue
import KE.KExcIs
import KE.KIsAll
import HandS.ExcField
import HandS.List
import HandS.Conv
import HandS.MakeKw
import HandS.MakeKwOnly
import PyProof.Draws
import PyProof.EnumMake
import PyProof.TupleIter
import PyProof.P3In
import HandS.ListItems
import HandS.SortKw
import KE.SortKeyed
import HandS.Small
import HandS.TupSets
import KE.DataFind
import HandS.TupLen
import KE.KItemsList
import KE.KDictZip
import KE.KIndexOf
import KE.KEqDict
import HandS.Exc
import KE.KExcStr
import PyProof.ReprBulk
import PySem.Challenge.RW_electkeep_k01_errors_made
set_option Elab.async false
set_option linter.all false
set_option maxRecDepth 100000
set_option maxHeartbeats 4000000
namespace EK
open PySem PySem.Spec PyProof.Rows L2
/-- a class to compare with: of the text, or built in -/
inductive Ty where
  | own (x : Str) | blt (t : String)
def Ty.val (K : PySem.W.Frag) : Ty → Value
  | .own x => .ref (He.ga K x)
  | .blt t => .type t
inductive Fx where
  /-- an operator's def -/
  | opr (x m : Str)
  /-- != is the object's -/
  | ne (x : Str)
  /-- isinstance of an instance -/
  | isi (x : Str) (t : Ty) (b : Bool)
  | isiT (x : Str) (ts : List Ty) (b : Bool)
  /-- isinstance of built-in data -/
  | kits (u : Ty) (tbl : List (String × Bool))
  | kitsT (us : List Ty) (tbl : List (String × Bool))
  /-- a class of exceptions; isinstance of one -/
  | xcl (x : Str)
  | xis (x : Str) (t : Ty) (b : Bool)
  /-- a module's tuple of texts -/
  | tupS (x : Str) (zs : List Str)
  /-- the table of modules is an object of the heap -/
  | sysd
  /-- str of an exception is that of its one argument -/
  | xst (x : Str)
/-- these values are these texts -/
def strsB : List Value → List Str → Bool
  | [], [] => true
  | .str x _ :: vs, y :: ys => decide (x = y) && strsB vs ys
  | _, _ => false
def clsB (K : PySem.W.Frag) (C : Addr) : Bool :=
  He.eqO (PySem.W.findIn K (.ref C) "__class__") (some (some (.builtin "object.__class__"))) && (He.eqO (PySem.W.specialIn K (.builtin "object.__class__") "__get__") (some (some (.builtin "getset_descriptor.__get__"))) &&
    (decide (PySem.W.takesIn K (.builtin "object.__class__") = some true) && decide (PySem.W.mroIn K C (.type "object") = some true)))
def Fx.ok (K : PySem.W.Frag) : Fx → Bool
  | .opr x m => He.eqO (PySem.W.findIn K (.ref (He.ga K x)) m) (some (some (.ref (He.ma K (He.ga K x) m)))) && (PySem.W.isFn K (.ref (He.ma K (He.ga K x) m)) && PySem.W.selfFirst K (He.ga K x))
  | .ne x => He.eqO (PySem.W.findIn K (.ref (He.ga K x)) "__ne__") (some (some (.builtin "object.__ne__"))) && decide (PySem.W.subIn K (.ref (He.ga K x)) (.type "object") = some true)
  | .isi x t b => clsB K (He.ga K x) && decide (PySem.W.kitOne K (.ref (He.ga K x)) (t.val K) = some b)
  | .isiT x ts b => clsB K (He.ga K x) && decide (PySem.W.kitAny K (.ref (He.ga K x)) (ts.map (Ty.val K)) = some b)
  | .kits u tbl => tbl.all fun p => decide (PySem.W.kitOne K (.type p.1) (u.val K) = some p.2)
  | .kitsT us tbl => tbl.all fun p => decide (PySem.W.kitAny K (.type p.1) (us.map (Ty.val K)) = some p.2)
  | .xcl x => clsB K (He.ga K x) && ((PySem.W.clsIn K (He.ga K x)).isSome && (He.eqO (PySem.W.findIn K (.ref (He.ga K x)) "__getattribute__") (some (some (.builtin "BaseException.__getattribute__"))) && (He.eqO (PySem.W.findIn K (.ref (He.ga K x)) "__getattr__") (some none) &&
      (decide (PySem.W.subIn K (.ref (He.ga K x)) (.type "BaseException") = some true) && PySem.W.hasDictIn K (He.ga K x)))))
  | .xis x t b => decide (PySem.W.kitOne K (.ref (He.ga K x)) (t.val K) = some b)
  | .sysd => (match K.lookup sysModules with
    | some o => decide (o.cls = .type "dict")
    | none => false)
  | .xst x => He.eqO (PySem.W.findIn K (.ref (He.ga K x)) "__str__") (some (some (.builtin "BaseException.__str__"))) && decide (PySem.W.subIn K (.ref (He.ga K x)) (.type "BaseException") = some true)
  | .tupS x zs => (match K.lookup (He.ga K x) with
    | some o => (match o.data with
      | .seq its _ => decide (o.cls = .type "tuple") && (decide (its.size ≤ 1000) && strsB its.toList zs)
      | _ => false)
    | none => false)
abbrev AlX : Type := He.AlD × Bool
def obsX (fa : List He.Fa) (fn : List He.DefD) (fx : List Fx) (K : PySem.W.Frag) : AlX := (He.obsD fa fn K, fx.all fun f => f.ok K)
structure SaysX (fa : List He.Fa) (fn : List He.DefD) (fx : List Fx) (K : PySem.W.Frag) : Prop where
  d : He.SaysD fa fn K
  x : (fx.all fun f => f.ok K) = true
/-- a getter: the class, the property's name, then the def -/
structure GetD where
  cls : Str
  prop : Str
  qual : Str
  params : Arguments
  body : List Stmt
  scope : Scope
def pAd (K : PySem.W.Frag) (c f : Str) : Addr := He.ma K (He.ga K c) f
def gAd (K : PySem.W.Frag) (c f : Str) : Addr := match PySem.W.recIn K (pAd K c f) "property" with
  | some (.ref g :: _) => g
  | _ => 0
def fnA (K : PySem.W.Frag) (a : Addr) : He.FnW := match K.lookup a with
  | some ⟨_, _, .func fd, _⟩ => some (fd.name, fd.qualname, fd.params, fd.body, fd.scope, fd.globals, fd.closure, fd.builtins)
  | _ => none
def GetD.val (d : GetD) : He.FnW := some (d.prop, d.qual, d.params, .stmts d.body, d.scope, mainGlobals, [], builtinsNs)
def isRef : Option (List Value) → Bool
  | some (.ref _ :: _) => true
  | _ => false
def GetD.okP (K : PySem.W.Frag) (d : GetD) : Bool := He.eqO (PySem.W.findIn K (.ref (He.ga K d.cls)) d.prop) (some (some (.ref (pAd K d.cls d.prop)))) && (He.eqO (PySem.W.specialIn K (.ref (pAd K d.cls d.prop)) "__get__") (some (some (.builtin "property.__get__"))) &&
  (decide (PySem.W.takesIn K (.ref (pAd K d.cls d.prop)) = some true) && isRef (PySem.W.recIn K (pAd K d.cls d.prop) "property")))
def GetD.okF (K : PySem.W.Frag) (d : GetD) : Bool := PySem.W.keepIn K (.ref (gAd K d.cls d.prop)) && (match K.lookup (gAd K d.cls d.prop) with
  | some ⟨_, _, .func fd, _⟩ => PySem.W.codeIn K fd.code d.qual && He.dflB K fd.defaults []
  | _ => false)
abbrev AlY : Type := AlX × Bool × List He.FnW
def obsY (fa : List He.Fa) (fn : List He.DefD) (fx : List Fx) (gt : List GetD) (K : PySem.W.Frag) : AlY := (obsX fa fn fx K, (gt.all fun d => d.okP K) && gt.all fun d => d.okF K, gt.map fun d => fnA K (gAd K d.cls d.prop))
structure SaysY (fa : List He.Fa) (fn : List He.DefD) (fx : List Fx) (gt : List GetD) (K : PySem.W.Frag) : Prop extends SaysX fa fn fx K where
  p : (gt.all fun d => d.okP K) = true
  f : (gt.all fun d => d.okF K) = true
  v : (gt.map fun d => fnA K (gAd K d.cls d.prop)) = gt.map GetD.val
structure SaysZ (fa : List He.Fa) (fn : List He.DefD) (fx : List Fx) (gt : List GetD) (tf : List He.Defn) (h : Heap) (K : PySem.W.Frag) : Prop where
  y : SaysY fa fn fx gt K
  hd : ∀ p ∈ tf, PySem.W.codeHdIn K (He.cT K p).1 (He.cT K p).2 = true
  out : ∀ p ∈ tf, K.lookup (He.cT K p).2 = none
  empty : ∀ p ∈ tf, h.get? (He.cT K p).2 = some { cls := .none, data := .fields #[] }
abbrev AlZ : Type := AlY × Bool
theorem saysZ_of {as : List Addr} {fa : List He.Fa} {fn : List He.DefD} {fx : List Fx} {gt : List GetD} {tf : List He.Defn} {h : Heap} (e : (obsY fa fn fx gt (He.frT h.get? as), He.tabsB h.get? tf (He.frT h.get? as)) = ((((He.valD fn, true), true, gt.map GetD.val), true) : AlZ)) : SaysZ fa fn fx gt tf h (He.frT h.get? as) := by
  have e1 : obsY fa fn fx gt (He.frT h.get? as) = ((He.valD fn, true), true, gt.map GetD.val) := congrArg (fun z : AlZ => z.1) e
  have e2 : He.tabsB h.get? tf (He.frT h.get? as) = true := congrArg (fun z : AlZ => z.2) e
  have ky : ∀ p ∈ tf, PySem.W.codeHdIn (He.frT h.get? as) (He.cT (He.frT h.get? as) p).1 (He.cT (He.frT h.get? as) p).2 = true ∧ ∃ o, h.get? (He.cT (He.frT h.get? as) p).2 = some o ∧ He.emptyTab o = true := fun p hp => by
    obtain ⟨u3, u4⟩ := He.ba (List.all_eq_true.mp e2 p hp)
    refine ⟨u3, ?_⟩
    cases q : h.get? (He.cT (He.frT h.get? as) p).2 with
    | none => rw [q] at u4; cases u4
    | some o => rw [q] at u4; exact ⟨o, rfl, u4⟩
  exact ⟨⟨⟨congrArg (fun z : AlY => z.1.1) e1, congrArg (fun z : AlY => z.1.2) e1⟩, (He.ba (congrArg (fun z : AlY => z.2.1) e1)).1, (He.ba (congrArg (fun z : AlY => z.2.1) e1)).2, congrArg (fun z : AlY => z.2.2) e1⟩, fun p hp => (ky p hp).1, fun p hp => by
    obtain ⟨_, o, q, z⟩ := ky p hp
    exact He.frT_none q z, fun p hp => by
    obtain ⟨_, o, q, z⟩ := ky p hp
    rw [q, He.emptyTab_eq z]⟩
structure ExcD where
  cls : Str
  fld : Str
  file : Str
  qual : Str
  params : Arguments
  body : List Stmt
  scope : Scope
def oexB (K : PySem.W.Frag) (C : Addr) : Bool := (match K.lookup C with
  | some ⟨.type t, _, .cls cd, sl⟩ => decide (t = "type") && (match cd.mro, sl.toList with
    | .ref C' :: bm, [_, _, _, _, some (.builtin n), _] => decide (C' = C) && (decide (n = "ValueError.__new__") && (!cd.hasDel && (cd.hasDict && PySem.HandSPX.refsVE bm)))
    | _, _ => false)
  | _ => false) && (He.eqO (PySem.W.findIn K (.ref C) "__setattr__") (some (some (.builtin "object.__setattr__"))) && (decide (PySem.W.subIn K (.ref C) (.type "BaseException") = some true) && (decide (PySem.W.typeIn K (.ref C) = some (.type "type")) && PySem.W.keepIn K (.ref C))))
def fileB (vs : Array Value) (file : Str) : Bool := match (vs[2]? : Option Value) with
  | some (.str f _) => decide (f = file)
  | _ => false
def initA (K : PySem.W.Frag) (c : Str) : Addr := He.ma K (He.ga K c) "__init__"
abbrev FnV : Type := Option (Str × Str × Arguments × FuncBody × Scope × Addr × List Str × Addr)
def fnV (K : PySem.W.Frag) (a : Addr) : FnV := match K.lookup a with
  | some ⟨_, _, .func fd, _⟩ => some (fd.name, fd.qualname, fd.params, fd.body, fd.scope, fd.globals, fd.closure.map (·.1), fd.builtins)
  | _ => none
def ExcD.val (d : ExcD) : FnV := some ("__init__", d.qual, d.params, .stmts d.body, d.scope, mainGlobals, ["__class__"], builtinsNs)
def ExcD.ok (K : PySem.W.Frag) (d : ExcD) : Bool := oexB K (He.ga K d.cls) && (He.eqO (PySem.W.findIn K (.ref (He.ga K d.cls)) d.fld) (some none) && (He.eqO (PySem.W.findIn K (.ref (He.ga K d.cls)) "__init__") (some (some (.ref (initA K d.cls)))) &&
  (decide (PySem.W.typeIn K (.ref (initA K d.cls)) = some (.type "function")) && (decide (PySem.W.mroIn K (He.ga K d.cls) (.ref (He.ga K d.cls)) = some true) && (decide (PySem.W.subIn K (.ref (He.ga K d.cls)) (.type "ValueError") = some true) &&
  (He.eqO (PySem.W.ks_superIn K (He.ga K d.cls) (He.ga K d.cls) "__init__") (some (some (.builtin "ValueError.__init__"))) && (He.eqO (PySem.W.nsIn K cStatics "thirdparty.any") (some none) && (He.eqO (PySem.W.nsIn K mainGlobals "super") (some none) &&
  (match K.lookup (initA K d.cls) with
    | some ⟨_, _, .func fd, _⟩ => (match fd.code, fd.closure with
      | .ref cda, [(_, cc)] => (PySem.W.codeIn K (.ref cda) d.qual && He.dflB K fd.defaults []) && ((match K.lookup cda with
        | some ⟨_, _, .fields vs, _⟩ => fileB vs d.file
        | _ => false) && (match K.lookup cc with
        | some ⟨_, _, .cell (some (.ref Q)), _⟩ => decide (Q = He.ga K d.cls)
        | _ => false))
      | _, _ => false)
    | _ => false)))))))))
structure SaysW (fa : List He.Fa) (fn : List He.DefD) (fx : List Fx) (gt : List GetD) (tf : List He.Defn) (xd : List ExcD) (h : Heap) (K : PySem.W.Frag) : Prop where
  z : SaysZ fa fn fx gt tf h K
  x : (xd.all fun d => d.ok K) = true
  v : (xd.map fun d => fnV K (initA K d.cls)) = xd.map ExcD.val
  dj : (tf.map fun p => (He.cT K p).2).Nodup
abbrev AlW : Type := AlZ × Bool × List FnV
/-- all addresses below n, the module's names first -/
def asV : Nat → List Addr → List Addr
  | 0, l => l
  | n + 1, l => asV n (n :: l)
def asR (n : Nat) : List Addr := mainGlobals :: cStatics :: asV n []
def obsV (as : List Addr) (fa : List He.Fa) (fn : List He.DefD) (fx : List Fx) (gt : List GetD) (tf : List He.Defn) (xd : List ExcD) (g : Addr → Option Obj) : AlW :=
  ((obsY fa fn fx gt (He.frT g as), He.tabsB g tf (He.frT g as)), ((xd.all fun d => d.ok (He.frT g as)) && decide ((tf.map fun p => (He.cT (He.frT g as) p).2).Nodup)), xd.map fun d => fnV (He.frT g as) (initA (He.frT g as) d.cls))
def hookV (as : List Addr) (fa : List He.Fa) (fn : List He.DefD) (fx : List Fx) (gt : List GetD) (tf : List He.Defn) (xd : List ExcD) : PySem.W.Hook where
  α := AlW
  obs := fun s => obsV as fa fn fx gt tf xd s.heap.get?
  val := fun _ => ((((He.valD fn, true), true, gt.map GetD.val), true), true, xd.map ExcD.val)
  says := fun _ h => ∃ K : PySem.W.Frag, K.In h ∧ SaysW fa fn fx gt tf xd h K
  of := fun _ s e => ⟨_, He.frT_in, saysZ_of (as := as) (congrArg (fun z : AlW => z.1) e), (He.ba (congrArg (fun z : AlW => z.2.1) e)).1, congrArg (fun z : AlW => z.2.2) e, of_decide_eq_true (He.ba (congrArg (fun z : AlW => z.2.1) e)).2⟩
  keeps := fun _ _ _ ⟨K, hK, c⟩ k => ⟨K, PySem.W.Frag.In.keeps hK k, ⟨⟨c.z.y, c.z.hd, c.z.out, fun p hp => k _ _ (c.z.empty p hp)⟩, c.x, c.v, c.dj⟩⟩
theorem obsV_eq {as : List Addr} {fa : List He.Fa} {fn : List He.DefD} {fx : List Fx} {gt : List GetD} {tf : List He.Defn} {xd : List ExcD} {g : Addr → Option Obj} {s : Shared} (h : ∀ a, g a = s.heap.get? a) : obsV as fa fn fx gt tf xd g = (hookV as fa fn fx gt tf xd).obs s := by
  have e : g = s.heap.get? := funext h
  rw [e] <;> rfl
end EK


namespace K01
open PySem PySem.Spec PyProof.Rows L2 EK
abbrev pr := PySem.Challenge.pw_electkeep_k01_errors_made
abbrev P : Program := PySem.W.OpenLaw.prog PySem.Challenge.rw_electkeep_k01_errors_made
def topS (i : Nat) : Stmt := pr.main.body.getD i (.Pass ⟨0, 0, 0, 0⟩)
def clsS (i j : Nat) : Stmt := (match topS i with | .ClassDef _ _ _ b _ _ _ _ _ _ _ => b | _ => []).getD j (.Pass ⟨0, 0, 0, 0⟩)
abbrev s_law_mixed : Stmt := topS 37
abbrev s_law_take : Stmt := topS 38
abbrev s_law_pick : Stmt := topS 39
abbrev s_law_with : Stmt := topS 40
abbrev s_law_without : Stmt := topS 43
abbrev s_law_told : Stmt := topS 42
abbrev s_law_by_name : Stmt := topS 41
abbrev s_law_first_marks : Stmt := topS 44
abbrev s_law_last_marks : Stmt := topS 45
abbrev s_law : Stmt := topS 46
def d_law_mixed : He.DefD := ⟨("_law_mixed", none), "_law_mixed", "_law_mixed", defArgs s_law_mixed, defBody s_law_mixed, defScope s_law_mixed, [], []⟩
def d_law_take : He.DefD := ⟨("_law_take", none), "_law_take", "_law_take", defArgs s_law_take, defBody s_law_take, defScope s_law_take, [], []⟩
def d_law_pick : He.DefD := ⟨("_law_pick", none), "_law_pick", "_law_pick", defArgs s_law_pick, defBody s_law_pick, defScope s_law_pick, [], []⟩
def d_law_with : He.DefD := ⟨("_law_with", none), "_law_with", "_law_with", defArgs s_law_with, defBody s_law_with, defScope s_law_with, [], []⟩
def d_law_without : He.DefD := ⟨("_law_without", none), "_law_without", "_law_without", defArgs s_law_without, defBody s_law_without, defScope s_law_without, [], []⟩
def d_law_told : He.DefD := ⟨("_law_told", none), "_law_told", "_law_told", defArgs s_law_told, defBody s_law_told, defScope s_law_told, [], []⟩
def d_law_by_name : He.DefD := ⟨("_law_by_name", none), "_law_by_name", "_law_by_name", defArgs s_law_by_name, defBody s_law_by_name, defScope s_law_by_name, [], []⟩
def d_law_first_marks : He.DefD := ⟨("_law_first_marks", none), "_law_first_marks", "_law_first_marks", defArgs s_law_first_marks, defBody s_law_first_marks, defScope s_law_first_marks, [], []⟩
def d_law_last_marks : He.DefD := ⟨("_law_last_marks", none), "_law_last_marks", "_law_last_marks", defArgs s_law_last_marks, defBody s_law_last_marks, defScope s_law_last_marks, [], []⟩
def d_law : He.DefD := ⟨("law", none), "law", "law", defArgs s_law, defBody s_law, defScope s_law, [], []⟩
abbrev s_law_begun : Stmt := topS 36
abbrev N_law_begun : List Str := ["_law_script", "_law_wide", "_law_grain"]
theorem sc_law_begun : FnScope N_law_begun ["_law_script"] (defScope s_law_begun) := ⟨rfl, rfl, rfl, by decide +kernel, rfl, by decide +kernel, by decide +kernel⟩
def d_law_begun : He.DefD := ⟨("_law_begun", none), "_law_begun", "_law_begun", defArgs s_law_begun, defBody s_law_begun, defScope s_law_begun, [], []⟩
def gt : List GetD := []
def fn : List He.DefD := [d_law_mixed, d_law_take, d_law_pick, d_law_with, d_law_without, d_law_told, d_law_by_name, d_law_first_marks, d_law_last_marks, d_law, d_law_begun]
def fa : List He.Fa := [.free "abs", .free "int", .glo "_law_begun", .free "len", .free "min", .free "range", .glo "_law_mixed", .glo "_law_take", .glo "_law_pick", .glo "BadFamily", .glo "BadCount", .glo "BadQuota", .glo "BadHand", .glo "BadBook", .glo "BadMachine", .glo "BadLeft", .glo "BadDeed", .glo "BadFalls", .glo "BadStages", .glo "BadIndex", .glo "BadPlace", .glo "NoTalk", .glo "CutOff", .glo "BadJournal", .glo "BadText", .glo "_law_with", .glo "OtherMachines", .exc "OtherMachines", .glo "BadLot", .exc "BadLot", .glo "BadWeights", .exc "BadWeights", .glo "BadRacks", .exc "BadRacks", .glo "BadLog", .exc "BadLog", .glo "BadRecord", .exc "BadRecord", .glo "BadStanding", .exc "BadStanding", .glo "BadTold", .exc "BadTold", .glo "BadEntries", .exc "BadEntries", .glo "BadPrices", .exc "BadPrices", .glo "NotRight", .exc "NotRight", .glo "NotNewest", .exc "NotNewest", .glo "BadRun", .exc "BadRun", .glo "BadSpread", .exc "BadSpread", .glo "NoLots", .exc "NoLots", .glo "BadCourse", .exc "BadCourse", .glo "NothingDone", .exc "NothingDone", .glo "_law_without", .noat "BadStages" "part", .noat "BadHand" "part", .noat "BadFamily" "part", .noat "BadBook" "part", .noat "BadCount" "count", .noat "BadQuota" "quota", .noat "BadMachine" "machine", .noat "BadLeft" "left", .noat "BadJournal" "at", .noat "BadDeed" "at", .noat "BadFalls" "falls", .noat "BadIndex" "index", .noat "CutOff" "place", .noat "BadPlace" "place", .noat "NoTalk" "term", .noat "BadText" "row", .glo "_law_told", .free "repr", .glo "_law_by_name", .free "enumerate", .glo "KeepError", .free "isinstance", .free "ValueError", .glo "_law_first_marks", .glo "_law_last_marks", .free "str", .glo "law"]
def fx : List Fx := [.xcl "BadStages", .xcl "BadHand", .xcl "BadFamily", .xcl "BadBook", .xcl "BadCount", .xcl "BadQuota", .xcl "BadMachine", .xcl "BadLeft", .xcl "BadJournal", .xcl "BadDeed", .xcl "BadFalls", .xcl "BadIndex", .xcl "CutOff", .xcl "BadPlace", .xcl "NoTalk", .xcl "BadText", .sysd, .kits (.own "KeepError") [("NoneType", false), ("bool", false), ("int", false), ("str", false), ("tuple", false), ("list", false), ("dict", false)], .xis "OtherMachines" (.own "KeepError") true, .xcl "OtherMachines", .xis "NothingDone" (.own "KeepError") true, .xcl "NothingDone", .xis "NotRight" (.own "KeepError") true, .xcl "NotRight", .xis "NotNewest" (.own "KeepError") true, .xcl "NotNewest", .xis "NoTalk" (.own "KeepError") true, .xis "NoLots" (.own "KeepError") true, .xcl "NoLots", .xis "CutOff" (.own "KeepError") true, .xis "BadWeights" (.own "KeepError") true, .xcl "BadWeights", .xis "BadTold" (.own "KeepError") true, .xcl "BadTold", .xis "BadText" (.own "KeepError") true, .xis "BadStanding" (.own "KeepError") true, .xcl "BadStanding", .xis "BadStages" (.own "KeepError") true, .xis "BadSpread" (.own "KeepError") true, .xcl "BadSpread", .xis "BadRun" (.own "KeepError") true, .xcl "BadRun", .xis "BadRecord" (.own "KeepError") true, .xcl "BadRecord", .xis "BadRacks" (.own "KeepError") true, .xcl "BadRacks", .xis "BadQuota" (.own "KeepError") true, .xis "BadPrices" (.own "KeepError") true, .xcl "BadPrices", .xis "BadPlace" (.own "KeepError") true, .xis "BadMachine" (.own "KeepError") true, .xis "BadLot" (.own "KeepError") true, .xcl "BadLot", .xis "BadLog" (.own "KeepError") true, .xcl "BadLog", .xis "BadLeft" (.own "KeepError") true, .xis "BadJournal" (.own "KeepError") true, .xis "BadIndex" (.own "KeepError") true, .xis "BadHand" (.own "KeepError") true, .xis "BadFamily" (.own "KeepError") true, .xis "BadFalls" (.own "KeepError") true, .xis "BadEntries" (.own "KeepError") true, .xcl "BadEntries", .xis "BadDeed" (.own "KeepError") true, .xis "BadCourse" (.own "KeepError") true, .xcl "BadCourse", .xis "BadCount" (.own "KeepError") true, .xis "BadBook" (.own "KeepError") true, .kits (.blt "ValueError") [("NoneType", false), ("bool", false), ("int", false), ("str", false), ("tuple", false), ("list", false), ("dict", false)], .xis "OtherMachines" (.blt "ValueError") true, .xis "NothingDone" (.blt "ValueError") true, .xis "NotRight" (.blt "ValueError") true, .xis "NotNewest" (.blt "ValueError") true, .xis "NoTalk" (.blt "ValueError") true, .xis "NoLots" (.blt "ValueError") true, .xis "CutOff" (.blt "ValueError") true, .xis "BadWeights" (.blt "ValueError") true, .xis "BadTold" (.blt "ValueError") true, .xis "BadText" (.blt "ValueError") true, .xis "BadStanding" (.blt "ValueError") true, .xis "BadStages" (.blt "ValueError") true, .xis "BadSpread" (.blt "ValueError") true, .xis "BadRun" (.blt "ValueError") true, .xis "BadRecord" (.blt "ValueError") true, .xis "BadRacks" (.blt "ValueError") true, .xis "BadQuota" (.blt "ValueError") true, .xis "BadPrices" (.blt "ValueError") true, .xis "BadPlace" (.blt "ValueError") true, .xis "BadMachine" (.blt "ValueError") true, .xis "BadLot" (.blt "ValueError") true, .xis "BadLog" (.blt "ValueError") true, .xis "BadLeft" (.blt "ValueError") true, .xis "BadJournal" (.blt "ValueError") true, .xis "BadIndex" (.blt "ValueError") true, .xis "BadHand" (.blt "ValueError") true, .xis "BadFamily" (.blt "ValueError") true, .xis "BadFalls" (.blt "ValueError") true, .xis "BadEntries" (.blt "ValueError") true, .xis "BadDeed" (.blt "ValueError") true, .xis "BadCourse" (.blt "ValueError") true, .xis "BadCount" (.blt "ValueError") true, .xis "BadBook" (.blt "ValueError") true, .kits (.own "BadFamily") [("NoneType", false), ("bool", false), ("int", false), ("str", false), ("tuple", false), ("list", false), ("dict", false)], .xis "OtherMachines" (.own "BadFamily") false, .xis "NothingDone" (.own "BadFamily") false, .xis "NotRight" (.own "BadFamily") false, .xis "NotNewest" (.own "BadFamily") false, .xis "NoTalk" (.own "BadFamily") false, .xis "NoLots" (.own "BadFamily") false, .xis "CutOff" (.own "BadFamily") false, .xis "BadWeights" (.own "BadFamily") false, .xis "BadTold" (.own "BadFamily") false, .xis "BadText" (.own "BadFamily") false, .xis "BadStanding" (.own "BadFamily") false, .xis "BadStages" (.own "BadFamily") false, .xis "BadSpread" (.own "BadFamily") false, .xis "BadRun" (.own "BadFamily") false, .xis "BadRecord" (.own "BadFamily") false, .xis "BadRacks" (.own "BadFamily") false, .xis "BadQuota" (.own "BadFamily") false, .xis "BadPrices" (.own "BadFamily") false, .xis "BadPlace" (.own "BadFamily") false, .xis "BadMachine" (.own "BadFamily") false, .xis "BadLot" (.own "BadFamily") false, .xis "BadLog" (.own "BadFamily") false, .xis "BadLeft" (.own "BadFamily") false, .xis "BadJournal" (.own "BadFamily") false, .xis "BadIndex" (.own "BadFamily") false, .xis "BadHand" (.own "BadFamily") false, .xis "BadFamily" (.own "BadFamily") true, .xis "BadFalls" (.own "BadFamily") false, .xis "BadEntries" (.own "BadFamily") false, .xis "BadDeed" (.own "BadFamily") false, .xis "BadCourse" (.own "BadFamily") false, .xis "BadCount" (.own "BadFamily") false, .xis "BadBook" (.own "BadFamily") false, .kits (.own "BadCount") [("NoneType", false), ("bool", false), ("int", false), ("str", false), ("tuple", false), ("list", false), ("dict", false)], .xis "OtherMachines" (.own "BadCount") false, .xis "NothingDone" (.own "BadCount") false, .xis "NotRight" (.own "BadCount") false, .xis "NotNewest" (.own "BadCount") false, .xis "NoTalk" (.own "BadCount") false, .xis "NoLots" (.own "BadCount") false, .xis "CutOff" (.own "BadCount") false, .xis "BadWeights" (.own "BadCount") false, .xis "BadTold" (.own "BadCount") false, .xis "BadText" (.own "BadCount") false, .xis "BadStanding" (.own "BadCount") false, .xis "BadStages" (.own "BadCount") false, .xis "BadSpread" (.own "BadCount") false, .xis "BadRun" (.own "BadCount") false, .xis "BadRecord" (.own "BadCount") false, .xis "BadRacks" (.own "BadCount") false, .xis "BadQuota" (.own "BadCount") false, .xis "BadPrices" (.own "BadCount") false, .xis "BadPlace" (.own "BadCount") false, .xis "BadMachine" (.own "BadCount") false, .xis "BadLot" (.own "BadCount") false, .xis "BadLog" (.own "BadCount") false, .xis "BadLeft" (.own "BadCount") false, .xis "BadJournal" (.own "BadCount") false, .xis "BadIndex" (.own "BadCount") false, .xis "BadHand" (.own "BadCount") false, .xis "BadFamily" (.own "BadCount") false, .xis "BadFalls" (.own "BadCount") false, .xis "BadEntries" (.own "BadCount") false, .xis "BadDeed" (.own "BadCount") false, .xis "BadCourse" (.own "BadCount") false, .xis "BadCount" (.own "BadCount") true, .xis "BadBook" (.own "BadCount") false, .kits (.own "BadQuota") [("NoneType", false), ("bool", false), ("int", false), ("str", false), ("tuple", false), ("list", false), ("dict", false)], .xis "OtherMachines" (.own "BadQuota") false, .xis "NothingDone" (.own "BadQuota") false, .xis "NotRight" (.own "BadQuota") false, .xis "NotNewest" (.own "BadQuota") false, .xis "NoTalk" (.own "BadQuota") false, .xis "NoLots" (.own "BadQuota") false, .xis "CutOff" (.own "BadQuota") false, .xis "BadWeights" (.own "BadQuota") false, .xis "BadTold" (.own "BadQuota") false, .xis "BadText" (.own "BadQuota") false, .xis "BadStanding" (.own "BadQuota") false, .xis "BadStages" (.own "BadQuota") false, .xis "BadSpread" (.own "BadQuota") false, .xis "BadRun" (.own "BadQuota") false, .xis "BadRecord" (.own "BadQuota") false, .xis "BadRacks" (.own "BadQuota") false, .xis "BadQuota" (.own "BadQuota") true, .xis "BadPrices" (.own "BadQuota") false, .xis "BadPlace" (.own "BadQuota") false, .xis "BadMachine" (.own "BadQuota") false, .xis "BadLot" (.own "BadQuota") false, .xis "BadLog" (.own "BadQuota") false, .xis "BadLeft" (.own "BadQuota") false, .xis "BadJournal" (.own "BadQuota") false, .xis "BadIndex" (.own "BadQuota") false, .xis "BadHand" (.own "BadQuota") false, .xis "BadFamily" (.own "BadQuota") false, .xis "BadFalls" (.own "BadQuota") false, .xis "BadEntries" (.own "BadQuota") false, .xis "BadDeed" (.own "BadQuota") false, .xis "BadCourse" (.own "BadQuota") false, .xis "BadCount" (.own "BadQuota") false, .xis "BadBook" (.own "BadQuota") false, .kits (.own "BadHand") [("NoneType", false), ("bool", false), ("int", false), ("str", false), ("tuple", false), ("list", false), ("dict", false)], .xis "OtherMachines" (.own "BadHand") false, .xis "NothingDone" (.own "BadHand") false, .xis "NotRight" (.own "BadHand") false, .xis "NotNewest" (.own "BadHand") false, .xis "NoTalk" (.own "BadHand") false, .xis "NoLots" (.own "BadHand") false, .xis "CutOff" (.own "BadHand") false, .xis "BadWeights" (.own "BadHand") false, .xis "BadTold" (.own "BadHand") false, .xis "BadText" (.own "BadHand") false, .xis "BadStanding" (.own "BadHand") false, .xis "BadStages" (.own "BadHand") false, .xis "BadSpread" (.own "BadHand") false, .xis "BadRun" (.own "BadHand") false, .xis "BadRecord" (.own "BadHand") false, .xis "BadRacks" (.own "BadHand") false, .xis "BadQuota" (.own "BadHand") false, .xis "BadPrices" (.own "BadHand") false, .xis "BadPlace" (.own "BadHand") false, .xis "BadMachine" (.own "BadHand") false, .xis "BadLot" (.own "BadHand") false, .xis "BadLog" (.own "BadHand") false, .xis "BadLeft" (.own "BadHand") false, .xis "BadJournal" (.own "BadHand") false, .xis "BadIndex" (.own "BadHand") false, .xis "BadHand" (.own "BadHand") true, .xis "BadFamily" (.own "BadHand") false, .xis "BadFalls" (.own "BadHand") false, .xis "BadEntries" (.own "BadHand") false, .xis "BadDeed" (.own "BadHand") false, .xis "BadCourse" (.own "BadHand") false, .xis "BadCount" (.own "BadHand") false, .xis "BadBook" (.own "BadHand") false, .kits (.own "BadBook") [("NoneType", false), ("bool", false), ("int", false), ("str", false), ("tuple", false), ("list", false), ("dict", false)], .xis "OtherMachines" (.own "BadBook") false, .xis "NothingDone" (.own "BadBook") false, .xis "NotRight" (.own "BadBook") false, .xis "NotNewest" (.own "BadBook") false, .xis "NoTalk" (.own "BadBook") false, .xis "NoLots" (.own "BadBook") false, .xis "CutOff" (.own "BadBook") false, .xis "BadWeights" (.own "BadBook") false, .xis "BadTold" (.own "BadBook") false, .xis "BadText" (.own "BadBook") false, .xis "BadStanding" (.own "BadBook") false, .xis "BadStages" (.own "BadBook") false, .xis "BadSpread" (.own "BadBook") false, .xis "BadRun" (.own "BadBook") false, .xis "BadRecord" (.own "BadBook") false, .xis "BadRacks" (.own "BadBook") false, .xis "BadQuota" (.own "BadBook") false, .xis "BadPrices" (.own "BadBook") false, .xis "BadPlace" (.own "BadBook") false, .xis "BadMachine" (.own "BadBook") false, .xis "BadLot" (.own "BadBook") false, .xis "BadLog" (.own "BadBook") false, .xis "BadLeft" (.own "BadBook") false, .xis "BadJournal" (.own "BadBook") false, .xis "BadIndex" (.own "BadBook") false, .xis "BadHand" (.own "BadBook") false, .xis "BadFamily" (.own "BadBook") false, .xis "BadFalls" (.own "BadBook") false, .xis "BadEntries" (.own "BadBook") false, .xis "BadDeed" (.own "BadBook") false, .xis "BadCourse" (.own "BadBook") false, .xis "BadCount" (.own "BadBook") false, .xis "BadBook" (.own "BadBook") true, .kits (.own "BadMachine") [("NoneType", false), ("bool", false), ("int", false), ("str", false), ("tuple", false), ("list", false), ("dict", false)], .xis "OtherMachines" (.own "BadMachine") false, .xis "NothingDone" (.own "BadMachine") false, .xis "NotRight" (.own "BadMachine") false, .xis "NotNewest" (.own "BadMachine") false, .xis "NoTalk" (.own "BadMachine") false, .xis "NoLots" (.own "BadMachine") false, .xis "CutOff" (.own "BadMachine") false, .xis "BadWeights" (.own "BadMachine") false, .xis "BadTold" (.own "BadMachine") false, .xis "BadText" (.own "BadMachine") false, .xis "BadStanding" (.own "BadMachine") false, .xis "BadStages" (.own "BadMachine") false, .xis "BadSpread" (.own "BadMachine") false, .xis "BadRun" (.own "BadMachine") false, .xis "BadRecord" (.own "BadMachine") false, .xis "BadRacks" (.own "BadMachine") false, .xis "BadQuota" (.own "BadMachine") false, .xis "BadPrices" (.own "BadMachine") false, .xis "BadPlace" (.own "BadMachine") false, .xis "BadMachine" (.own "BadMachine") true, .xis "BadLot" (.own "BadMachine") false, .xis "BadLog" (.own "BadMachine") false, .xis "BadLeft" (.own "BadMachine") false, .xis "BadJournal" (.own "BadMachine") false, .xis "BadIndex" (.own "BadMachine") false, .xis "BadHand" (.own "BadMachine") false, .xis "BadFamily" (.own "BadMachine") false, .xis "BadFalls" (.own "BadMachine") false, .xis "BadEntries" (.own "BadMachine") false, .xis "BadDeed" (.own "BadMachine") false, .xis "BadCourse" (.own "BadMachine") false, .xis "BadCount" (.own "BadMachine") false, .xis "BadBook" (.own "BadMachine") false, .kits (.own "BadLeft") [("NoneType", false), ("bool", false), ("int", false), ("str", false), ("tuple", false), ("list", false), ("dict", false)], .xis "OtherMachines" (.own "BadLeft") false, .xis "NothingDone" (.own "BadLeft") false, .xis "NotRight" (.own "BadLeft") false, .xis "NotNewest" (.own "BadLeft") false, .xis "NoTalk" (.own "BadLeft") false, .xis "NoLots" (.own "BadLeft") false, .xis "CutOff" (.own "BadLeft") false, .xis "BadWeights" (.own "BadLeft") false, .xis "BadTold" (.own "BadLeft") false, .xis "BadText" (.own "BadLeft") false, .xis "BadStanding" (.own "BadLeft") false, .xis "BadStages" (.own "BadLeft") false, .xis "BadSpread" (.own "BadLeft") false, .xis "BadRun" (.own "BadLeft") false, .xis "BadRecord" (.own "BadLeft") false, .xis "BadRacks" (.own "BadLeft") false, .xis "BadQuota" (.own "BadLeft") false, .xis "BadPrices" (.own "BadLeft") false, .xis "BadPlace" (.own "BadLeft") false, .xis "BadMachine" (.own "BadLeft") false, .xis "BadLot" (.own "BadLeft") false, .xis "BadLog" (.own "BadLeft") false, .xis "BadLeft" (.own "BadLeft") true, .xis "BadJournal" (.own "BadLeft") false, .xis "BadIndex" (.own "BadLeft") false, .xis "BadHand" (.own "BadLeft") false, .xis "BadFamily" (.own "BadLeft") false, .xis "BadFalls" (.own "BadLeft") false, .xis "BadEntries" (.own "BadLeft") false, .xis "BadDeed" (.own "BadLeft") false, .xis "BadCourse" (.own "BadLeft") false, .xis "BadCount" (.own "BadLeft") false, .xis "BadBook" (.own "BadLeft") false, .kits (.own "BadDeed") [("NoneType", false), ("bool", false), ("int", false), ("str", false), ("tuple", false), ("list", false), ("dict", false)], .xis "OtherMachines" (.own "BadDeed") false, .xis "NothingDone" (.own "BadDeed") false, .xis "NotRight" (.own "BadDeed") false, .xis "NotNewest" (.own "BadDeed") false, .xis "NoTalk" (.own "BadDeed") false, .xis "NoLots" (.own "BadDeed") false, .xis "CutOff" (.own "BadDeed") false, .xis "BadWeights" (.own "BadDeed") false, .xis "BadTold" (.own "BadDeed") false, .xis "BadText" (.own "BadDeed") false, .xis "BadStanding" (.own "BadDeed") false, .xis "BadStages" (.own "BadDeed") false, .xis "BadSpread" (.own "BadDeed") false, .xis "BadRun" (.own "BadDeed") false, .xis "BadRecord" (.own "BadDeed") false, .xis "BadRacks" (.own "BadDeed") false, .xis "BadQuota" (.own "BadDeed") false, .xis "BadPrices" (.own "BadDeed") false, .xis "BadPlace" (.own "BadDeed") false, .xis "BadMachine" (.own "BadDeed") false, .xis "BadLot" (.own "BadDeed") false, .xis "BadLog" (.own "BadDeed") false, .xis "BadLeft" (.own "BadDeed") false, .xis "BadJournal" (.own "BadDeed") false, .xis "BadIndex" (.own "BadDeed") false, .xis "BadHand" (.own "BadDeed") false, .xis "BadFamily" (.own "BadDeed") false, .xis "BadFalls" (.own "BadDeed") false, .xis "BadEntries" (.own "BadDeed") false, .xis "BadDeed" (.own "BadDeed") true, .xis "BadCourse" (.own "BadDeed") false, .xis "BadCount" (.own "BadDeed") false, .xis "BadBook" (.own "BadDeed") false, .kits (.own "BadFalls") [("NoneType", false), ("bool", false), ("int", false), ("str", false), ("tuple", false), ("list", false), ("dict", false)], .xis "OtherMachines" (.own "BadFalls") false, .xis "NothingDone" (.own "BadFalls") false, .xis "NotRight" (.own "BadFalls") false, .xis "NotNewest" (.own "BadFalls") false, .xis "NoTalk" (.own "BadFalls") false, .xis "NoLots" (.own "BadFalls") false, .xis "CutOff" (.own "BadFalls") false, .xis "BadWeights" (.own "BadFalls") false, .xis "BadTold" (.own "BadFalls") false, .xis "BadText" (.own "BadFalls") false, .xis "BadStanding" (.own "BadFalls") false, .xis "BadStages" (.own "BadFalls") false, .xis "BadSpread" (.own "BadFalls") false, .xis "BadRun" (.own "BadFalls") false, .xis "BadRecord" (.own "BadFalls") false, .xis "BadRacks" (.own "BadFalls") false, .xis "BadQuota" (.own "BadFalls") false, .xis "BadPrices" (.own "BadFalls") false, .xis "BadPlace" (.own "BadFalls") false, .xis "BadMachine" (.own "BadFalls") false, .xis "BadLot" (.own "BadFalls") false, .xis "BadLog" (.own "BadFalls") false, .xis "BadLeft" (.own "BadFalls") false, .xis "BadJournal" (.own "BadFalls") false, .xis "BadIndex" (.own "BadFalls") false, .xis "BadHand" (.own "BadFalls") false, .xis "BadFamily" (.own "BadFalls") false, .xis "BadFalls" (.own "BadFalls") true, .xis "BadEntries" (.own "BadFalls") false, .xis "BadDeed" (.own "BadFalls") false, .xis "BadCourse" (.own "BadFalls") false, .xis "BadCount" (.own "BadFalls") false, .xis "BadBook" (.own "BadFalls") false, .kits (.own "BadStages") [("NoneType", false), ("bool", false), ("int", false), ("str", false), ("tuple", false), ("list", false), ("dict", false)], .xis "OtherMachines" (.own "BadStages") false, .xis "NothingDone" (.own "BadStages") false, .xis "NotRight" (.own "BadStages") false, .xis "NotNewest" (.own "BadStages") false, .xis "NoTalk" (.own "BadStages") false, .xis "NoLots" (.own "BadStages") false, .xis "CutOff" (.own "BadStages") false, .xis "BadWeights" (.own "BadStages") false, .xis "BadTold" (.own "BadStages") false, .xis "BadText" (.own "BadStages") false, .xis "BadStanding" (.own "BadStages") false, .xis "BadStages" (.own "BadStages") true, .xis "BadSpread" (.own "BadStages") false, .xis "BadRun" (.own "BadStages") false, .xis "BadRecord" (.own "BadStages") false, .xis "BadRacks" (.own "BadStages") false, .xis "BadQuota" (.own "BadStages") false, .xis "BadPrices" (.own "BadStages") false, .xis "BadPlace" (.own "BadStages") false, .xis "BadMachine" (.own "BadStages") false, .xis "BadLot" (.own "BadStages") false, .xis "BadLog" (.own "BadStages") false, .xis "BadLeft" (.own "BadStages") false, .xis "BadJournal" (.own "BadStages") false, .xis "BadIndex" (.own "BadStages") false, .xis "BadHand" (.own "BadStages") false, .xis "BadFamily" (.own "BadStages") false, .xis "BadFalls" (.own "BadStages") false, .xis "BadEntries" (.own "BadStages") false, .xis "BadDeed" (.own "BadStages") false, .xis "BadCourse" (.own "BadStages") false, .xis "BadCount" (.own "BadStages") false, .xis "BadBook" (.own "BadStages") false, .kits (.own "BadIndex") [("NoneType", false), ("bool", false), ("int", false), ("str", false), ("tuple", false), ("list", false), ("dict", false)], .xis "OtherMachines" (.own "BadIndex") false, .xis "NothingDone" (.own "BadIndex") false, .xis "NotRight" (.own "BadIndex") false, .xis "NotNewest" (.own "BadIndex") false, .xis "NoTalk" (.own "BadIndex") false, .xis "NoLots" (.own "BadIndex") false, .xis "CutOff" (.own "BadIndex") false, .xis "BadWeights" (.own "BadIndex") false, .xis "BadTold" (.own "BadIndex") false, .xis "BadText" (.own "BadIndex") false, .xis "BadStanding" (.own "BadIndex") false, .xis "BadStages" (.own "BadIndex") false, .xis "BadSpread" (.own "BadIndex") false, .xis "BadRun" (.own "BadIndex") false, .xis "BadRecord" (.own "BadIndex") false, .xis "BadRacks" (.own "BadIndex") false, .xis "BadQuota" (.own "BadIndex") false, .xis "BadPrices" (.own "BadIndex") false, .xis "BadPlace" (.own "BadIndex") false, .xis "BadMachine" (.own "BadIndex") false, .xis "BadLot" (.own "BadIndex") false, .xis "BadLog" (.own "BadIndex") false, .xis "BadLeft" (.own "BadIndex") false, .xis "BadJournal" (.own "BadIndex") false, .xis "BadIndex" (.own "BadIndex") true, .xis "BadHand" (.own "BadIndex") false, .xis "BadFamily" (.own "BadIndex") false, .xis "BadFalls" (.own "BadIndex") false, .xis "BadEntries" (.own "BadIndex") false, .xis "BadDeed" (.own "BadIndex") false, .xis "BadCourse" (.own "BadIndex") false, .xis "BadCount" (.own "BadIndex") false, .xis "BadBook" (.own "BadIndex") false, .kits (.own "BadPlace") [("NoneType", false), ("bool", false), ("int", false), ("str", false), ("tuple", false), ("list", false), ("dict", false)], .xis "OtherMachines" (.own "BadPlace") false, .xis "NothingDone" (.own "BadPlace") false, .xis "NotRight" (.own "BadPlace") false, .xis "NotNewest" (.own "BadPlace") false, .xis "NoTalk" (.own "BadPlace") false, .xis "NoLots" (.own "BadPlace") false, .xis "CutOff" (.own "BadPlace") false, .xis "BadWeights" (.own "BadPlace") false, .xis "BadTold" (.own "BadPlace") false, .xis "BadText" (.own "BadPlace") false, .xis "BadStanding" (.own "BadPlace") false, .xis "BadStages" (.own "BadPlace") false, .xis "BadSpread" (.own "BadPlace") false, .xis "BadRun" (.own "BadPlace") false, .xis "BadRecord" (.own "BadPlace") false, .xis "BadRacks" (.own "BadPlace") false, .xis "BadQuota" (.own "BadPlace") false, .xis "BadPrices" (.own "BadPlace") false, .xis "BadPlace" (.own "BadPlace") true, .xis "BadMachine" (.own "BadPlace") false, .xis "BadLot" (.own "BadPlace") false, .xis "BadLog" (.own "BadPlace") false, .xis "BadLeft" (.own "BadPlace") false, .xis "BadJournal" (.own "BadPlace") false, .xis "BadIndex" (.own "BadPlace") false, .xis "BadHand" (.own "BadPlace") false, .xis "BadFamily" (.own "BadPlace") false, .xis "BadFalls" (.own "BadPlace") false, .xis "BadEntries" (.own "BadPlace") false, .xis "BadDeed" (.own "BadPlace") false, .xis "BadCourse" (.own "BadPlace") false, .xis "BadCount" (.own "BadPlace") false, .xis "BadBook" (.own "BadPlace") false, .kits (.own "NoTalk") [("NoneType", false), ("bool", false), ("int", false), ("str", false), ("tuple", false), ("list", false), ("dict", false)], .xis "OtherMachines" (.own "NoTalk") false, .xis "NothingDone" (.own "NoTalk") false, .xis "NotRight" (.own "NoTalk") false, .xis "NotNewest" (.own "NoTalk") false, .xis "NoTalk" (.own "NoTalk") true, .xis "NoLots" (.own "NoTalk") false, .xis "CutOff" (.own "NoTalk") false, .xis "BadWeights" (.own "NoTalk") false, .xis "BadTold" (.own "NoTalk") false, .xis "BadText" (.own "NoTalk") false, .xis "BadStanding" (.own "NoTalk") false, .xis "BadStages" (.own "NoTalk") false, .xis "BadSpread" (.own "NoTalk") false, .xis "BadRun" (.own "NoTalk") false, .xis "BadRecord" (.own "NoTalk") false, .xis "BadRacks" (.own "NoTalk") false, .xis "BadQuota" (.own "NoTalk") false, .xis "BadPrices" (.own "NoTalk") false, .xis "BadPlace" (.own "NoTalk") false, .xis "BadMachine" (.own "NoTalk") false, .xis "BadLot" (.own "NoTalk") false, .xis "BadLog" (.own "NoTalk") false, .xis "BadLeft" (.own "NoTalk") false, .xis "BadJournal" (.own "NoTalk") false, .xis "BadIndex" (.own "NoTalk") false, .xis "BadHand" (.own "NoTalk") false, .xis "BadFamily" (.own "NoTalk") false, .xis "BadFalls" (.own "NoTalk") false, .xis "BadEntries" (.own "NoTalk") false, .xis "BadDeed" (.own "NoTalk") false, .xis "BadCourse" (.own "NoTalk") false, .xis "BadCount" (.own "NoTalk") false, .xis "BadBook" (.own "NoTalk") false, .kits (.own "CutOff") [("NoneType", false), ("bool", false), ("int", false), ("str", false), ("tuple", false), ("list", false), ("dict", false)], .xis "OtherMachines" (.own "CutOff") false, .xis "NothingDone" (.own "CutOff") false, .xis "NotRight" (.own "CutOff") false, .xis "NotNewest" (.own "CutOff") false, .xis "NoTalk" (.own "CutOff") false, .xis "NoLots" (.own "CutOff") false, .xis "CutOff" (.own "CutOff") true, .xis "BadWeights" (.own "CutOff") false, .xis "BadTold" (.own "CutOff") false, .xis "BadText" (.own "CutOff") false, .xis "BadStanding" (.own "CutOff") false, .xis "BadStages" (.own "CutOff") false, .xis "BadSpread" (.own "CutOff") false, .xis "BadRun" (.own "CutOff") false, .xis "BadRecord" (.own "CutOff") false, .xis "BadRacks" (.own "CutOff") false, .xis "BadQuota" (.own "CutOff") false, .xis "BadPrices" (.own "CutOff") false, .xis "BadPlace" (.own "CutOff") false, .xis "BadMachine" (.own "CutOff") false, .xis "BadLot" (.own "CutOff") false, .xis "BadLog" (.own "CutOff") false, .xis "BadLeft" (.own "CutOff") false, .xis "BadJournal" (.own "CutOff") false, .xis "BadIndex" (.own "CutOff") false, .xis "BadHand" (.own "CutOff") false, .xis "BadFamily" (.own "CutOff") false, .xis "BadFalls" (.own "CutOff") false, .xis "BadEntries" (.own "CutOff") false, .xis "BadDeed" (.own "CutOff") false, .xis "BadCourse" (.own "CutOff") false, .xis "BadCount" (.own "CutOff") false, .xis "BadBook" (.own "CutOff") false, .kits (.own "BadJournal") [("NoneType", false), ("bool", false), ("int", false), ("str", false), ("tuple", false), ("list", false), ("dict", false)], .xis "OtherMachines" (.own "BadJournal") false, .xis "NothingDone" (.own "BadJournal") false, .xis "NotRight" (.own "BadJournal") false, .xis "NotNewest" (.own "BadJournal") false, .xis "NoTalk" (.own "BadJournal") false, .xis "NoLots" (.own "BadJournal") false, .xis "CutOff" (.own "BadJournal") false, .xis "BadWeights" (.own "BadJournal") false, .xis "BadTold" (.own "BadJournal") false, .xis "BadText" (.own "BadJournal") false, .xis "BadStanding" (.own "BadJournal") false, .xis "BadStages" (.own "BadJournal") false, .xis "BadSpread" (.own "BadJournal") false, .xis "BadRun" (.own "BadJournal") false, .xis "BadRecord" (.own "BadJournal") false, .xis "BadRacks" (.own "BadJournal") false, .xis "BadQuota" (.own "BadJournal") false, .xis "BadPrices" (.own "BadJournal") false, .xis "BadPlace" (.own "BadJournal") false, .xis "BadMachine" (.own "BadJournal") false, .xis "BadLot" (.own "BadJournal") false, .xis "BadLog" (.own "BadJournal") false, .xis "BadLeft" (.own "BadJournal") false, .xis "BadJournal" (.own "BadJournal") true, .xis "BadIndex" (.own "BadJournal") false, .xis "BadHand" (.own "BadJournal") false, .xis "BadFamily" (.own "BadJournal") false, .xis "BadFalls" (.own "BadJournal") false, .xis "BadEntries" (.own "BadJournal") false, .xis "BadDeed" (.own "BadJournal") false, .xis "BadCourse" (.own "BadJournal") false, .xis "BadCount" (.own "BadJournal") false, .xis "BadBook" (.own "BadJournal") false, .kits (.own "BadText") [("NoneType", false), ("bool", false), ("int", false), ("str", false), ("tuple", false), ("list", false), ("dict", false)], .xis "OtherMachines" (.own "BadText") false, .xis "NothingDone" (.own "BadText") false, .xis "NotRight" (.own "BadText") false, .xis "NotNewest" (.own "BadText") false, .xis "NoTalk" (.own "BadText") false, .xis "NoLots" (.own "BadText") false, .xis "CutOff" (.own "BadText") false, .xis "BadWeights" (.own "BadText") false, .xis "BadTold" (.own "BadText") false, .xis "BadText" (.own "BadText") true, .xis "BadStanding" (.own "BadText") false, .xis "BadStages" (.own "BadText") false, .xis "BadSpread" (.own "BadText") false, .xis "BadRun" (.own "BadText") false, .xis "BadRecord" (.own "BadText") false, .xis "BadRacks" (.own "BadText") false, .xis "BadQuota" (.own "BadText") false, .xis "BadPrices" (.own "BadText") false, .xis "BadPlace" (.own "BadText") false, .xis "BadMachine" (.own "BadText") false, .xis "BadLot" (.own "BadText") false, .xis "BadLog" (.own "BadText") false, .xis "BadLeft" (.own "BadText") false, .xis "BadJournal" (.own "BadText") false, .xis "BadIndex" (.own "BadText") false, .xis "BadHand" (.own "BadText") false, .xis "BadFamily" (.own "BadText") false, .xis "BadFalls" (.own "BadText") false, .xis "BadEntries" (.own "BadText") false, .xis "BadDeed" (.own "BadText") false, .xis "BadCourse" (.own "BadText") false, .xis "BadCount" (.own "BadText") false, .xis "BadBook" (.own "BadText") false, .kits (.own "OtherMachines") [("NoneType", false), ("bool", false), ("int", false), ("str", false), ("tuple", false), ("list", false), ("dict", false)], .xis "OtherMachines" (.own "OtherMachines") true, .xis "NothingDone" (.own "OtherMachines") false, .xis "NotRight" (.own "OtherMachines") false, .xis "NotNewest" (.own "OtherMachines") false, .xis "NoTalk" (.own "OtherMachines") false, .xis "NoLots" (.own "OtherMachines") false, .xis "CutOff" (.own "OtherMachines") false, .xis "BadWeights" (.own "OtherMachines") false, .xis "BadTold" (.own "OtherMachines") false, .xis "BadText" (.own "OtherMachines") false, .xis "BadStanding" (.own "OtherMachines") false, .xis "BadStages" (.own "OtherMachines") false, .xis "BadSpread" (.own "OtherMachines") false, .xis "BadRun" (.own "OtherMachines") false, .xis "BadRecord" (.own "OtherMachines") false, .xis "BadRacks" (.own "OtherMachines") false, .xis "BadQuota" (.own "OtherMachines") false, .xis "BadPrices" (.own "OtherMachines") false, .xis "BadPlace" (.own "OtherMachines") false, .xis "BadMachine" (.own "OtherMachines") false, .xis "BadLot" (.own "OtherMachines") false, .xis "BadLog" (.own "OtherMachines") false, .xis "BadLeft" (.own "OtherMachines") false, .xis "BadJournal" (.own "OtherMachines") false, .xis "BadIndex" (.own "OtherMachines") false, .xis "BadHand" (.own "OtherMachines") false, .xis "BadFamily" (.own "OtherMachines") false, .xis "BadFalls" (.own "OtherMachines") false, .xis "BadEntries" (.own "OtherMachines") false, .xis "BadDeed" (.own "OtherMachines") false, .xis "BadCourse" (.own "OtherMachines") false, .xis "BadCount" (.own "OtherMachines") false, .xis "BadBook" (.own "OtherMachines") false, .kits (.own "BadLot") [("NoneType", false), ("bool", false), ("int", false), ("str", false), ("tuple", false), ("list", false), ("dict", false)], .xis "OtherMachines" (.own "BadLot") false, .xis "NothingDone" (.own "BadLot") false, .xis "NotRight" (.own "BadLot") false, .xis "NotNewest" (.own "BadLot") false, .xis "NoTalk" (.own "BadLot") false, .xis "NoLots" (.own "BadLot") false, .xis "CutOff" (.own "BadLot") false, .xis "BadWeights" (.own "BadLot") false, .xis "BadTold" (.own "BadLot") false, .xis "BadText" (.own "BadLot") false, .xis "BadStanding" (.own "BadLot") false, .xis "BadStages" (.own "BadLot") false, .xis "BadSpread" (.own "BadLot") false, .xis "BadRun" (.own "BadLot") false, .xis "BadRecord" (.own "BadLot") false, .xis "BadRacks" (.own "BadLot") false, .xis "BadQuota" (.own "BadLot") false, .xis "BadPrices" (.own "BadLot") false, .xis "BadPlace" (.own "BadLot") false, .xis "BadMachine" (.own "BadLot") false, .xis "BadLot" (.own "BadLot") true, .xis "BadLog" (.own "BadLot") false, .xis "BadLeft" (.own "BadLot") false, .xis "BadJournal" (.own "BadLot") false, .xis "BadIndex" (.own "BadLot") false, .xis "BadHand" (.own "BadLot") false, .xis "BadFamily" (.own "BadLot") false, .xis "BadFalls" (.own "BadLot") false, .xis "BadEntries" (.own "BadLot") false, .xis "BadDeed" (.own "BadLot") false, .xis "BadCourse" (.own "BadLot") false, .xis "BadCount" (.own "BadLot") false, .xis "BadBook" (.own "BadLot") false, .kits (.own "BadWeights") [("NoneType", false), ("bool", false), ("int", false), ("str", false), ("tuple", false), ("list", false), ("dict", false)], .xis "OtherMachines" (.own "BadWeights") false, .xis "NothingDone" (.own "BadWeights") false, .xis "NotRight" (.own "BadWeights") false, .xis "NotNewest" (.own "BadWeights") false, .xis "NoTalk" (.own "BadWeights") false, .xis "NoLots" (.own "BadWeights") false, .xis "CutOff" (.own "BadWeights") false, .xis "BadWeights" (.own "BadWeights") true, .xis "BadTold" (.own "BadWeights") false, .xis "BadText" (.own "BadWeights") false, .xis "BadStanding" (.own "BadWeights") false, .xis "BadStages" (.own "BadWeights") false, .xis "BadSpread" (.own "BadWeights") false, .xis "BadRun" (.own "BadWeights") false, .xis "BadRecord" (.own "BadWeights") false, .xis "BadRacks" (.own "BadWeights") false, .xis "BadQuota" (.own "BadWeights") false, .xis "BadPrices" (.own "BadWeights") false, .xis "BadPlace" (.own "BadWeights") false, .xis "BadMachine" (.own "BadWeights") false, .xis "BadLot" (.own "BadWeights") false, .xis "BadLog" (.own "BadWeights") false, .xis "BadLeft" (.own "BadWeights") false, .xis "BadJournal" (.own "BadWeights") false, .xis "BadIndex" (.own "BadWeights") false, .xis "BadHand" (.own "BadWeights") false, .xis "BadFamily" (.own "BadWeights") false, .xis "BadFalls" (.own "BadWeights") false, .xis "BadEntries" (.own "BadWeights") false, .xis "BadDeed" (.own "BadWeights") false, .xis "BadCourse" (.own "BadWeights") false, .xis "BadCount" (.own "BadWeights") false, .xis "BadBook" (.own "BadWeights") false, .kits (.own "BadRacks") [("NoneType", false), ("bool", false), ("int", false), ("str", false), ("tuple", false), ("list", false), ("dict", false)], .xis "OtherMachines" (.own "BadRacks") false, .xis "NothingDone" (.own "BadRacks") false, .xis "NotRight" (.own "BadRacks") false, .xis "NotNewest" (.own "BadRacks") false, .xis "NoTalk" (.own "BadRacks") false, .xis "NoLots" (.own "BadRacks") false, .xis "CutOff" (.own "BadRacks") false, .xis "BadWeights" (.own "BadRacks") false, .xis "BadTold" (.own "BadRacks") false, .xis "BadText" (.own "BadRacks") false, .xis "BadStanding" (.own "BadRacks") false, .xis "BadStages" (.own "BadRacks") false, .xis "BadSpread" (.own "BadRacks") false, .xis "BadRun" (.own "BadRacks") false, .xis "BadRecord" (.own "BadRacks") false, .xis "BadRacks" (.own "BadRacks") true, .xis "BadQuota" (.own "BadRacks") false, .xis "BadPrices" (.own "BadRacks") false, .xis "BadPlace" (.own "BadRacks") false, .xis "BadMachine" (.own "BadRacks") false, .xis "BadLot" (.own "BadRacks") false, .xis "BadLog" (.own "BadRacks") false, .xis "BadLeft" (.own "BadRacks") false, .xis "BadJournal" (.own "BadRacks") false, .xis "BadIndex" (.own "BadRacks") false, .xis "BadHand" (.own "BadRacks") false, .xis "BadFamily" (.own "BadRacks") false, .xis "BadFalls" (.own "BadRacks") false, .xis "BadEntries" (.own "BadRacks") false, .xis "BadDeed" (.own "BadRacks") false, .xis "BadCourse" (.own "BadRacks") false, .xis "BadCount" (.own "BadRacks") false, .xis "BadBook" (.own "BadRacks") false, .kits (.own "BadLog") [("NoneType", false), ("bool", false), ("int", false), ("str", false), ("tuple", false), ("list", false), ("dict", false)], .xis "OtherMachines" (.own "BadLog") false, .xis "NothingDone" (.own "BadLog") false, .xis "NotRight" (.own "BadLog") false, .xis "NotNewest" (.own "BadLog") false, .xis "NoTalk" (.own "BadLog") false, .xis "NoLots" (.own "BadLog") false, .xis "CutOff" (.own "BadLog") false, .xis "BadWeights" (.own "BadLog") false, .xis "BadTold" (.own "BadLog") false, .xis "BadText" (.own "BadLog") false, .xis "BadStanding" (.own "BadLog") false, .xis "BadStages" (.own "BadLog") false, .xis "BadSpread" (.own "BadLog") false, .xis "BadRun" (.own "BadLog") false, .xis "BadRecord" (.own "BadLog") false, .xis "BadRacks" (.own "BadLog") false, .xis "BadQuota" (.own "BadLog") false, .xis "BadPrices" (.own "BadLog") false, .xis "BadPlace" (.own "BadLog") false, .xis "BadMachine" (.own "BadLog") false, .xis "BadLot" (.own "BadLog") false, .xis "BadLog" (.own "BadLog") true, .xis "BadLeft" (.own "BadLog") false, .xis "BadJournal" (.own "BadLog") false, .xis "BadIndex" (.own "BadLog") false, .xis "BadHand" (.own "BadLog") false, .xis "BadFamily" (.own "BadLog") false, .xis "BadFalls" (.own "BadLog") false, .xis "BadEntries" (.own "BadLog") false, .xis "BadDeed" (.own "BadLog") false, .xis "BadCourse" (.own "BadLog") false, .xis "BadCount" (.own "BadLog") false, .xis "BadBook" (.own "BadLog") false, .kits (.own "BadRecord") [("NoneType", false), ("bool", false), ("int", false), ("str", false), ("tuple", false), ("list", false), ("dict", false)], .xis "OtherMachines" (.own "BadRecord") false, .xis "NothingDone" (.own "BadRecord") false, .xis "NotRight" (.own "BadRecord") false, .xis "NotNewest" (.own "BadRecord") false, .xis "NoTalk" (.own "BadRecord") false, .xis "NoLots" (.own "BadRecord") false, .xis "CutOff" (.own "BadRecord") false, .xis "BadWeights" (.own "BadRecord") false, .xis "BadTold" (.own "BadRecord") false, .xis "BadText" (.own "BadRecord") false, .xis "BadStanding" (.own "BadRecord") false, .xis "BadStages" (.own "BadRecord") false, .xis "BadSpread" (.own "BadRecord") false, .xis "BadRun" (.own "BadRecord") false, .xis "BadRecord" (.own "BadRecord") true, .xis "BadRacks" (.own "BadRecord") false, .xis "BadQuota" (.own "BadRecord") false, .xis "BadPrices" (.own "BadRecord") false, .xis "BadPlace" (.own "BadRecord") false, .xis "BadMachine" (.own "BadRecord") false, .xis "BadLot" (.own "BadRecord") false, .xis "BadLog" (.own "BadRecord") false, .xis "BadLeft" (.own "BadRecord") false, .xis "BadJournal" (.own "BadRecord") false, .xis "BadIndex" (.own "BadRecord") false, .xis "BadHand" (.own "BadRecord") false, .xis "BadFamily" (.own "BadRecord") false, .xis "BadFalls" (.own "BadRecord") false, .xis "BadEntries" (.own "BadRecord") false, .xis "BadDeed" (.own "BadRecord") false, .xis "BadCourse" (.own "BadRecord") false, .xis "BadCount" (.own "BadRecord") false, .xis "BadBook" (.own "BadRecord") false, .kits (.own "BadStanding") [("NoneType", false), ("bool", false), ("int", false), ("str", false), ("tuple", false), ("list", false), ("dict", false)], .xis "OtherMachines" (.own "BadStanding") false, .xis "NothingDone" (.own "BadStanding") false, .xis "NotRight" (.own "BadStanding") false, .xis "NotNewest" (.own "BadStanding") false, .xis "NoTalk" (.own "BadStanding") false, .xis "NoLots" (.own "BadStanding") false, .xis "CutOff" (.own "BadStanding") false, .xis "BadWeights" (.own "BadStanding") false, .xis "BadTold" (.own "BadStanding") false, .xis "BadText" (.own "BadStanding") false, .xis "BadStanding" (.own "BadStanding") true, .xis "BadStages" (.own "BadStanding") false, .xis "BadSpread" (.own "BadStanding") false, .xis "BadRun" (.own "BadStanding") false, .xis "BadRecord" (.own "BadStanding") false, .xis "BadRacks" (.own "BadStanding") false, .xis "BadQuota" (.own "BadStanding") false, .xis "BadPrices" (.own "BadStanding") false, .xis "BadPlace" (.own "BadStanding") false, .xis "BadMachine" (.own "BadStanding") false, .xis "BadLot" (.own "BadStanding") false, .xis "BadLog" (.own "BadStanding") false, .xis "BadLeft" (.own "BadStanding") false, .xis "BadJournal" (.own "BadStanding") false, .xis "BadIndex" (.own "BadStanding") false, .xis "BadHand" (.own "BadStanding") false, .xis "BadFamily" (.own "BadStanding") false, .xis "BadFalls" (.own "BadStanding") false, .xis "BadEntries" (.own "BadStanding") false, .xis "BadDeed" (.own "BadStanding") false, .xis "BadCourse" (.own "BadStanding") false, .xis "BadCount" (.own "BadStanding") false, .xis "BadBook" (.own "BadStanding") false, .kits (.own "BadTold") [("NoneType", false), ("bool", false), ("int", false), ("str", false), ("tuple", false), ("list", false), ("dict", false)], .xis "OtherMachines" (.own "BadTold") false, .xis "NothingDone" (.own "BadTold") false, .xis "NotRight" (.own "BadTold") false, .xis "NotNewest" (.own "BadTold") false, .xis "NoTalk" (.own "BadTold") false, .xis "NoLots" (.own "BadTold") false, .xis "CutOff" (.own "BadTold") false, .xis "BadWeights" (.own "BadTold") false, .xis "BadTold" (.own "BadTold") true, .xis "BadText" (.own "BadTold") false, .xis "BadStanding" (.own "BadTold") false, .xis "BadStages" (.own "BadTold") false, .xis "BadSpread" (.own "BadTold") false, .xis "BadRun" (.own "BadTold") false, .xis "BadRecord" (.own "BadTold") false, .xis "BadRacks" (.own "BadTold") false, .xis "BadQuota" (.own "BadTold") false, .xis "BadPrices" (.own "BadTold") false, .xis "BadPlace" (.own "BadTold") false, .xis "BadMachine" (.own "BadTold") false, .xis "BadLot" (.own "BadTold") false, .xis "BadLog" (.own "BadTold") false, .xis "BadLeft" (.own "BadTold") false, .xis "BadJournal" (.own "BadTold") false, .xis "BadIndex" (.own "BadTold") false, .xis "BadHand" (.own "BadTold") false, .xis "BadFamily" (.own "BadTold") false, .xis "BadFalls" (.own "BadTold") false, .xis "BadEntries" (.own "BadTold") false, .xis "BadDeed" (.own "BadTold") false, .xis "BadCourse" (.own "BadTold") false, .xis "BadCount" (.own "BadTold") false, .xis "BadBook" (.own "BadTold") false, .kits (.own "BadEntries") [("NoneType", false), ("bool", false), ("int", false), ("str", false), ("tuple", false), ("list", false), ("dict", false)], .xis "OtherMachines" (.own "BadEntries") false, .xis "NothingDone" (.own "BadEntries") false, .xis "NotRight" (.own "BadEntries") false, .xis "NotNewest" (.own "BadEntries") false, .xis "NoTalk" (.own "BadEntries") false, .xis "NoLots" (.own "BadEntries") false, .xis "CutOff" (.own "BadEntries") false, .xis "BadWeights" (.own "BadEntries") false, .xis "BadTold" (.own "BadEntries") false, .xis "BadText" (.own "BadEntries") false, .xis "BadStanding" (.own "BadEntries") false, .xis "BadStages" (.own "BadEntries") false, .xis "BadSpread" (.own "BadEntries") false, .xis "BadRun" (.own "BadEntries") false, .xis "BadRecord" (.own "BadEntries") false, .xis "BadRacks" (.own "BadEntries") false, .xis "BadQuota" (.own "BadEntries") false, .xis "BadPrices" (.own "BadEntries") false, .xis "BadPlace" (.own "BadEntries") false, .xis "BadMachine" (.own "BadEntries") false, .xis "BadLot" (.own "BadEntries") false, .xis "BadLog" (.own "BadEntries") false, .xis "BadLeft" (.own "BadEntries") false, .xis "BadJournal" (.own "BadEntries") false, .xis "BadIndex" (.own "BadEntries") false, .xis "BadHand" (.own "BadEntries") false, .xis "BadFamily" (.own "BadEntries") false, .xis "BadFalls" (.own "BadEntries") false, .xis "BadEntries" (.own "BadEntries") true, .xis "BadDeed" (.own "BadEntries") false, .xis "BadCourse" (.own "BadEntries") false, .xis "BadCount" (.own "BadEntries") false, .xis "BadBook" (.own "BadEntries") false, .kits (.own "BadPrices") [("NoneType", false), ("bool", false), ("int", false), ("str", false), ("tuple", false), ("list", false), ("dict", false)], .xis "OtherMachines" (.own "BadPrices") false, .xis "NothingDone" (.own "BadPrices") false, .xis "NotRight" (.own "BadPrices") false, .xis "NotNewest" (.own "BadPrices") false, .xis "NoTalk" (.own "BadPrices") false, .xis "NoLots" (.own "BadPrices") false, .xis "CutOff" (.own "BadPrices") false, .xis "BadWeights" (.own "BadPrices") false, .xis "BadTold" (.own "BadPrices") false, .xis "BadText" (.own "BadPrices") false, .xis "BadStanding" (.own "BadPrices") false, .xis "BadStages" (.own "BadPrices") false, .xis "BadSpread" (.own "BadPrices") false, .xis "BadRun" (.own "BadPrices") false, .xis "BadRecord" (.own "BadPrices") false, .xis "BadRacks" (.own "BadPrices") false, .xis "BadQuota" (.own "BadPrices") false, .xis "BadPrices" (.own "BadPrices") true, .xis "BadPlace" (.own "BadPrices") false, .xis "BadMachine" (.own "BadPrices") false, .xis "BadLot" (.own "BadPrices") false, .xis "BadLog" (.own "BadPrices") false, .xis "BadLeft" (.own "BadPrices") false, .xis "BadJournal" (.own "BadPrices") false, .xis "BadIndex" (.own "BadPrices") false, .xis "BadHand" (.own "BadPrices") false, .xis "BadFamily" (.own "BadPrices") false, .xis "BadFalls" (.own "BadPrices") false, .xis "BadEntries" (.own "BadPrices") false, .xis "BadDeed" (.own "BadPrices") false, .xis "BadCourse" (.own "BadPrices") false, .xis "BadCount" (.own "BadPrices") false, .xis "BadBook" (.own "BadPrices") false, .kits (.own "NotRight") [("NoneType", false), ("bool", false), ("int", false), ("str", false), ("tuple", false), ("list", false), ("dict", false)], .xis "OtherMachines" (.own "NotRight") false, .xis "NothingDone" (.own "NotRight") false, .xis "NotRight" (.own "NotRight") true, .xis "NotNewest" (.own "NotRight") false, .xis "NoTalk" (.own "NotRight") false, .xis "NoLots" (.own "NotRight") false, .xis "CutOff" (.own "NotRight") false, .xis "BadWeights" (.own "NotRight") false, .xis "BadTold" (.own "NotRight") false, .xis "BadText" (.own "NotRight") false, .xis "BadStanding" (.own "NotRight") false, .xis "BadStages" (.own "NotRight") false, .xis "BadSpread" (.own "NotRight") false, .xis "BadRun" (.own "NotRight") false, .xis "BadRecord" (.own "NotRight") false, .xis "BadRacks" (.own "NotRight") false, .xis "BadQuota" (.own "NotRight") false, .xis "BadPrices" (.own "NotRight") false, .xis "BadPlace" (.own "NotRight") false, .xis "BadMachine" (.own "NotRight") false, .xis "BadLot" (.own "NotRight") false, .xis "BadLog" (.own "NotRight") false, .xis "BadLeft" (.own "NotRight") false, .xis "BadJournal" (.own "NotRight") false, .xis "BadIndex" (.own "NotRight") false, .xis "BadHand" (.own "NotRight") false, .xis "BadFamily" (.own "NotRight") false, .xis "BadFalls" (.own "NotRight") false, .xis "BadEntries" (.own "NotRight") false, .xis "BadDeed" (.own "NotRight") false, .xis "BadCourse" (.own "NotRight") false, .xis "BadCount" (.own "NotRight") false, .xis "BadBook" (.own "NotRight") false, .kits (.own "NotNewest") [("NoneType", false), ("bool", false), ("int", false), ("str", false), ("tuple", false), ("list", false), ("dict", false)], .xis "OtherMachines" (.own "NotNewest") false, .xis "NothingDone" (.own "NotNewest") false, .xis "NotRight" (.own "NotNewest") false, .xis "NotNewest" (.own "NotNewest") true, .xis "NoTalk" (.own "NotNewest") false, .xis "NoLots" (.own "NotNewest") false, .xis "CutOff" (.own "NotNewest") false, .xis "BadWeights" (.own "NotNewest") false, .xis "BadTold" (.own "NotNewest") false, .xis "BadText" (.own "NotNewest") false, .xis "BadStanding" (.own "NotNewest") false, .xis "BadStages" (.own "NotNewest") false, .xis "BadSpread" (.own "NotNewest") false, .xis "BadRun" (.own "NotNewest") false, .xis "BadRecord" (.own "NotNewest") false, .xis "BadRacks" (.own "NotNewest") false, .xis "BadQuota" (.own "NotNewest") false, .xis "BadPrices" (.own "NotNewest") false, .xis "BadPlace" (.own "NotNewest") false, .xis "BadMachine" (.own "NotNewest") false, .xis "BadLot" (.own "NotNewest") false, .xis "BadLog" (.own "NotNewest") false, .xis "BadLeft" (.own "NotNewest") false, .xis "BadJournal" (.own "NotNewest") false, .xis "BadIndex" (.own "NotNewest") false, .xis "BadHand" (.own "NotNewest") false, .xis "BadFamily" (.own "NotNewest") false, .xis "BadFalls" (.own "NotNewest") false, .xis "BadEntries" (.own "NotNewest") false, .xis "BadDeed" (.own "NotNewest") false, .xis "BadCourse" (.own "NotNewest") false, .xis "BadCount" (.own "NotNewest") false, .xis "BadBook" (.own "NotNewest") false, .kits (.own "BadRun") [("NoneType", false), ("bool", false), ("int", false), ("str", false), ("tuple", false), ("list", false), ("dict", false)], .xis "OtherMachines" (.own "BadRun") false, .xis "NothingDone" (.own "BadRun") false, .xis "NotRight" (.own "BadRun") false, .xis "NotNewest" (.own "BadRun") false, .xis "NoTalk" (.own "BadRun") false, .xis "NoLots" (.own "BadRun") false, .xis "CutOff" (.own "BadRun") false, .xis "BadWeights" (.own "BadRun") false, .xis "BadTold" (.own "BadRun") false, .xis "BadText" (.own "BadRun") false, .xis "BadStanding" (.own "BadRun") false, .xis "BadStages" (.own "BadRun") false, .xis "BadSpread" (.own "BadRun") false, .xis "BadRun" (.own "BadRun") true, .xis "BadRecord" (.own "BadRun") false, .xis "BadRacks" (.own "BadRun") false, .xis "BadQuota" (.own "BadRun") false, .xis "BadPrices" (.own "BadRun") false, .xis "BadPlace" (.own "BadRun") false, .xis "BadMachine" (.own "BadRun") false, .xis "BadLot" (.own "BadRun") false, .xis "BadLog" (.own "BadRun") false, .xis "BadLeft" (.own "BadRun") false, .xis "BadJournal" (.own "BadRun") false, .xis "BadIndex" (.own "BadRun") false, .xis "BadHand" (.own "BadRun") false, .xis "BadFamily" (.own "BadRun") false, .xis "BadFalls" (.own "BadRun") false, .xis "BadEntries" (.own "BadRun") false, .xis "BadDeed" (.own "BadRun") false, .xis "BadCourse" (.own "BadRun") false, .xis "BadCount" (.own "BadRun") false, .xis "BadBook" (.own "BadRun") false, .kits (.own "BadSpread") [("NoneType", false), ("bool", false), ("int", false), ("str", false), ("tuple", false), ("list", false), ("dict", false)], .xis "OtherMachines" (.own "BadSpread") false, .xis "NothingDone" (.own "BadSpread") false, .xis "NotRight" (.own "BadSpread") false, .xis "NotNewest" (.own "BadSpread") false, .xis "NoTalk" (.own "BadSpread") false, .xis "NoLots" (.own "BadSpread") false, .xis "CutOff" (.own "BadSpread") false, .xis "BadWeights" (.own "BadSpread") false, .xis "BadTold" (.own "BadSpread") false, .xis "BadText" (.own "BadSpread") false, .xis "BadStanding" (.own "BadSpread") false, .xis "BadStages" (.own "BadSpread") false, .xis "BadSpread" (.own "BadSpread") true, .xis "BadRun" (.own "BadSpread") false, .xis "BadRecord" (.own "BadSpread") false, .xis "BadRacks" (.own "BadSpread") false, .xis "BadQuota" (.own "BadSpread") false, .xis "BadPrices" (.own "BadSpread") false, .xis "BadPlace" (.own "BadSpread") false, .xis "BadMachine" (.own "BadSpread") false, .xis "BadLot" (.own "BadSpread") false, .xis "BadLog" (.own "BadSpread") false, .xis "BadLeft" (.own "BadSpread") false, .xis "BadJournal" (.own "BadSpread") false, .xis "BadIndex" (.own "BadSpread") false, .xis "BadHand" (.own "BadSpread") false, .xis "BadFamily" (.own "BadSpread") false, .xis "BadFalls" (.own "BadSpread") false, .xis "BadEntries" (.own "BadSpread") false, .xis "BadDeed" (.own "BadSpread") false, .xis "BadCourse" (.own "BadSpread") false, .xis "BadCount" (.own "BadSpread") false, .xis "BadBook" (.own "BadSpread") false, .kits (.own "NoLots") [("NoneType", false), ("bool", false), ("int", false), ("str", false), ("tuple", false), ("list", false), ("dict", false)], .xis "OtherMachines" (.own "NoLots") false, .xis "NothingDone" (.own "NoLots") false, .xis "NotRight" (.own "NoLots") false, .xis "NotNewest" (.own "NoLots") false, .xis "NoTalk" (.own "NoLots") false, .xis "NoLots" (.own "NoLots") true, .xis "CutOff" (.own "NoLots") false, .xis "BadWeights" (.own "NoLots") false, .xis "BadTold" (.own "NoLots") false, .xis "BadText" (.own "NoLots") false, .xis "BadStanding" (.own "NoLots") false, .xis "BadStages" (.own "NoLots") false, .xis "BadSpread" (.own "NoLots") false, .xis "BadRun" (.own "NoLots") false, .xis "BadRecord" (.own "NoLots") false, .xis "BadRacks" (.own "NoLots") false, .xis "BadQuota" (.own "NoLots") false, .xis "BadPrices" (.own "NoLots") false, .xis "BadPlace" (.own "NoLots") false, .xis "BadMachine" (.own "NoLots") false, .xis "BadLot" (.own "NoLots") false, .xis "BadLog" (.own "NoLots") false, .xis "BadLeft" (.own "NoLots") false, .xis "BadJournal" (.own "NoLots") false, .xis "BadIndex" (.own "NoLots") false, .xis "BadHand" (.own "NoLots") false, .xis "BadFamily" (.own "NoLots") false, .xis "BadFalls" (.own "NoLots") false, .xis "BadEntries" (.own "NoLots") false, .xis "BadDeed" (.own "NoLots") false, .xis "BadCourse" (.own "NoLots") false, .xis "BadCount" (.own "NoLots") false, .xis "BadBook" (.own "NoLots") false, .kits (.own "BadCourse") [("NoneType", false), ("bool", false), ("int", false), ("str", false), ("tuple", false), ("list", false), ("dict", false)], .xis "OtherMachines" (.own "BadCourse") false, .xis "NothingDone" (.own "BadCourse") false, .xis "NotRight" (.own "BadCourse") false, .xis "NotNewest" (.own "BadCourse") false, .xis "NoTalk" (.own "BadCourse") false, .xis "NoLots" (.own "BadCourse") false, .xis "CutOff" (.own "BadCourse") false, .xis "BadWeights" (.own "BadCourse") false, .xis "BadTold" (.own "BadCourse") false, .xis "BadText" (.own "BadCourse") false, .xis "BadStanding" (.own "BadCourse") false, .xis "BadStages" (.own "BadCourse") false, .xis "BadSpread" (.own "BadCourse") false, .xis "BadRun" (.own "BadCourse") false, .xis "BadRecord" (.own "BadCourse") false, .xis "BadRacks" (.own "BadCourse") false, .xis "BadQuota" (.own "BadCourse") false, .xis "BadPrices" (.own "BadCourse") false, .xis "BadPlace" (.own "BadCourse") false, .xis "BadMachine" (.own "BadCourse") false, .xis "BadLot" (.own "BadCourse") false, .xis "BadLog" (.own "BadCourse") false, .xis "BadLeft" (.own "BadCourse") false, .xis "BadJournal" (.own "BadCourse") false, .xis "BadIndex" (.own "BadCourse") false, .xis "BadHand" (.own "BadCourse") false, .xis "BadFamily" (.own "BadCourse") false, .xis "BadFalls" (.own "BadCourse") false, .xis "BadEntries" (.own "BadCourse") false, .xis "BadDeed" (.own "BadCourse") false, .xis "BadCourse" (.own "BadCourse") true, .xis "BadCount" (.own "BadCourse") false, .xis "BadBook" (.own "BadCourse") false, .kits (.own "NothingDone") [("NoneType", false), ("bool", false), ("int", false), ("str", false), ("tuple", false), ("list", false), ("dict", false)], .xis "OtherMachines" (.own "NothingDone") false, .xis "NothingDone" (.own "NothingDone") true, .xis "NotRight" (.own "NothingDone") false, .xis "NotNewest" (.own "NothingDone") false, .xis "NoTalk" (.own "NothingDone") false, .xis "NoLots" (.own "NothingDone") false, .xis "CutOff" (.own "NothingDone") false, .xis "BadWeights" (.own "NothingDone") false, .xis "BadTold" (.own "NothingDone") false, .xis "BadText" (.own "NothingDone") false, .xis "BadStanding" (.own "NothingDone") false, .xis "BadStages" (.own "NothingDone") false, .xis "BadSpread" (.own "NothingDone") false, .xis "BadRun" (.own "NothingDone") false, .xis "BadRecord" (.own "NothingDone") false, .xis "BadRacks" (.own "NothingDone") false, .xis "BadQuota" (.own "NothingDone") false, .xis "BadPrices" (.own "NothingDone") false, .xis "BadPlace" (.own "NothingDone") false, .xis "BadMachine" (.own "NothingDone") false, .xis "BadLot" (.own "NothingDone") false, .xis "BadLog" (.own "NothingDone") false, .xis "BadLeft" (.own "NothingDone") false, .xis "BadJournal" (.own "NothingDone") false, .xis "BadIndex" (.own "NothingDone") false, .xis "BadHand" (.own "NothingDone") false, .xis "BadFamily" (.own "NothingDone") false, .xis "BadFalls" (.own "NothingDone") false, .xis "BadEntries" (.own "NothingDone") false, .xis "BadDeed" (.own "NothingDone") false, .xis "BadCourse" (.own "NothingDone") false, .xis "BadCount" (.own "NothingDone") false, .xis "BadBook" (.own "NothingDone") false, .xst "OtherMachines", .xst "NothingDone", .xst "NotRight", .xst "NotNewest", .xst "NoLots", .xst "BadWeights", .xst "BadTold", .xst "BadStanding", .xst "BadSpread", .xst "BadRun", .xst "BadRecord", .xst "BadRacks", .xst "BadPrices", .xst "BadLot", .xst "BadLog", .xst "BadEntries", .xst "BadCourse"]
def tf : List He.Defn := []
def lamN (p : He.Defn) : Str := (p.1 ++ ".<locals>.") ++ "<lambda>"
abbrev s_x_BadFamily : Stmt := clsS 2 0
def xd_BadFamily : ExcD := ⟨"BadFamily", "part", P.main.file, "BadFamily.__init__", defArgs s_x_BadFamily, defBody s_x_BadFamily, defScope s_x_BadFamily⟩
abbrev s_x_BadCount : Stmt := clsS 5 0
def xd_BadCount : ExcD := ⟨"BadCount", "count", P.main.file, "BadCount.__init__", defArgs s_x_BadCount, defBody s_x_BadCount, defScope s_x_BadCount⟩
abbrev s_x_BadQuota : Stmt := clsS 7 0
def xd_BadQuota : ExcD := ⟨"BadQuota", "quota", P.main.file, "BadQuota.__init__", defArgs s_x_BadQuota, defBody s_x_BadQuota, defScope s_x_BadQuota⟩
abbrev s_x_BadHand : Stmt := clsS 9 0
def xd_BadHand : ExcD := ⟨"BadHand", "part", P.main.file, "BadHand.__init__", defArgs s_x_BadHand, defBody s_x_BadHand, defScope s_x_BadHand⟩
abbrev s_x_BadBook : Stmt := clsS 10 0
def xd_BadBook : ExcD := ⟨"BadBook", "part", P.main.file, "BadBook.__init__", defArgs s_x_BadBook, defBody s_x_BadBook, defScope s_x_BadBook⟩
abbrev s_x_BadMachine : Stmt := clsS 11 0
def xd_BadMachine : ExcD := ⟨"BadMachine", "machine", P.main.file, "BadMachine.__init__", defArgs s_x_BadMachine, defBody s_x_BadMachine, defScope s_x_BadMachine⟩
abbrev s_x_BadLeft : Stmt := clsS 14 0
def xd_BadLeft : ExcD := ⟨"BadLeft", "left", P.main.file, "BadLeft.__init__", defArgs s_x_BadLeft, defBody s_x_BadLeft, defScope s_x_BadLeft⟩
abbrev s_x_BadDeed : Stmt := clsS 16 0
def xd_BadDeed : ExcD := ⟨"BadDeed", "at", P.main.file, "BadDeed.__init__", defArgs s_x_BadDeed, defBody s_x_BadDeed, defScope s_x_BadDeed⟩
abbrev s_x_BadFalls : Stmt := clsS 19 0
def xd_BadFalls : ExcD := ⟨"BadFalls", "falls", P.main.file, "BadFalls.__init__", defArgs s_x_BadFalls, defBody s_x_BadFalls, defScope s_x_BadFalls⟩
abbrev s_x_BadStages : Stmt := clsS 23 0
def xd_BadStages : ExcD := ⟨"BadStages", "part", P.main.file, "BadStages.__init__", defArgs s_x_BadStages, defBody s_x_BadStages, defScope s_x_BadStages⟩
abbrev s_x_BadIndex : Stmt := clsS 25 0
def xd_BadIndex : ExcD := ⟨"BadIndex", "index", P.main.file, "BadIndex.__init__", defArgs s_x_BadIndex, defBody s_x_BadIndex, defScope s_x_BadIndex⟩
abbrev s_x_BadPlace : Stmt := clsS 29 0
def xd_BadPlace : ExcD := ⟨"BadPlace", "place", P.main.file, "BadPlace.__init__", defArgs s_x_BadPlace, defBody s_x_BadPlace, defScope s_x_BadPlace⟩
abbrev s_x_NoTalk : Stmt := clsS 30 0
def xd_NoTalk : ExcD := ⟨"NoTalk", "term", P.main.file, "NoTalk.__init__", defArgs s_x_NoTalk, defBody s_x_NoTalk, defScope s_x_NoTalk⟩
abbrev s_x_CutOff : Stmt := clsS 31 0
def xd_CutOff : ExcD := ⟨"CutOff", "place", P.main.file, "CutOff.__init__", defArgs s_x_CutOff, defBody s_x_CutOff, defScope s_x_CutOff⟩
abbrev s_x_BadJournal : Stmt := clsS 33 0
def xd_BadJournal : ExcD := ⟨"BadJournal", "at", P.main.file, "BadJournal.__init__", defArgs s_x_BadJournal, defBody s_x_BadJournal, defScope s_x_BadJournal⟩
abbrev s_x_BadText : Stmt := clsS 34 0
def xd_BadText : ExcD := ⟨"BadText", "row", P.main.file, "BadText.__init__", defArgs s_x_BadText, defBody s_x_BadText, defScope s_x_BadText⟩
def xd : List ExcD := [xd_BadFamily, xd_BadCount, xd_BadQuota, xd_BadHand, xd_BadBook, xd_BadMachine, xd_BadLeft, xd_BadDeed, xd_BadFalls, xd_BadStages, xd_BadIndex, xd_BadPlace, xd_NoTalk, xd_CutOff, xd_BadJournal, xd_BadText]
abbrev R : PySem.W.OpenRow := PySem.W.OpenLaw.row PySem.Challenge.rw_electkeep_k01_errors_made
def frs : List Addr := mainGlobals :: cStatics :: ([579, 578, 586, 585, 593, 592, 600, 599, 621, 620, 614, 613, 607, 606, 628, 627, 635, 634, 640, 639, 572, 571] ++ EK.asV 641 [])
abbrev hk : PySem.W.Hook := hookV frs fa fn fx gt tf xd
def ob (s : PySem.W.SharedT) : AlW := obsV frs fa fn fx gt tf xd (HandSHeadRun.getT s)
theorem ob_eq (s : PySem.W.SharedT) : ob s = hk.obs s.abs := obsV_eq (HandSHeadRun.getT_eq s)
def names0 : List Str := ["__name__", "KeepError", "BadFamily", "OtherMachines", "BadLot", "BadCount", "BadWeights", "BadQuota", "BadRacks", "BadHand", "BadBook", "BadMachine", "BadLog", "BadRecord", "BadLeft", "BadStanding", "BadDeed", "BadTold", "BadEntries", "BadFalls"]
def names1 : List Str := ["BadPrices", "NotRight", "NotNewest", "BadStages", "BadRun", "BadIndex", "BadSpread", "NoLots", "BadCourse", "BadPlace", "NoTalk", "CutOff", "NothingDone", "BadJournal", "BadText", "_law_begun", "_law_mixed", "_law_take", "_law_pick", "_law_with"]
def names2 : List Str := ["_law_by_name", "_law_told", "_law_without", "_law_first_marks", "_law_last_marks"]
def names : List Str := names0 ++ names1 ++ names2
set_option maxHeartbeats 0 in
theorem run (w : World) : HandSHeadRun.RunEq R (PySem.W.view R.prog [46]) hk ob 30000 names w := by
  intro os
  kernel_rfl
end K01


namespace EK
open PySem PySem.Spec PyProof.Rows L2

section
variable {P : Program} {w : World} {κ : Type} [DecidableEq κ] (knd : KeyKind P w κ)
/-- the set at a holds the keys ks, each once; it can be walked -/
def SetG (h : Heap) (a : Addr) (ks : List κ) : Prop :=
  ∃ o es ep t, h.get? a = some o ∧ o.ExactSet ∧ o.data = .set es ep t ∧ ElemsOf knd es.toList ∧ (∃ l, l.Perm ks ∧ PySem.W.EachIs (fun e k => knd.is k e.2 = true) es.toList l) ∧ ks.Nodup ∧
    es.size < scanBound ∧ t.fits es.size = true ∧ Ris t.place.toList ∧ (w.params.followText "set-order" = true ∨ t.led = true)
/-- one more key -/
def addK (ks : List κ) (k : κ) : List κ := if k ∈ ks then ks else ks ++ [k]
def dedupK (xs : List κ) : List κ := xs.foldl addK []
variable {knd}
theorem SetG.at {h h' : Heap} {a : Addr} {ks : List κ} (R : SetG knd h a ks) (k : ∀ o, h.get? a = some o → h'.get? a = some o) : SetG knd h' a ks := by
  obtain ⟨o, es, ep, t, ho, r⟩ := R
  exact ⟨o, es, ep, t, k o ho, r⟩
theorem addK_nodup {ks : List κ} {k : κ} (h : ks.Nodup) : (addK ks k).Nodup := by
  unfold addK
  split
  · exact h
  · rename_i hn
    exact List.nodup_append.mpr ⟨h, List.nodup_cons.mpr ⟨by simp, List.nodup_nil⟩, fun a ha b hb => by
      rw [List.mem_singleton.mp hb]
      exact fun e => hn (e ▸ ha)⟩
variable {A : Around} {E : Value → Shared → Prop} {s : Shared} {a : Addr}
@[reducible] def newSet (w : World) : Obj := { cls := .type "set", dict := none, data := .set #[] 0 (.fresh 0 0 (!w.params.followText "set-order")) }
theorem each_get {α β : Type} {R : α → β → Prop} : ∀ {l : List α} {ks : List β}, PySem.W.EachIs R l ks → ∀ (i : Nat) (v : α), l[i]? = some v → ∃ k, ks[i]? = some k ∧ R v k
  | _, _, .nil, i, v, h => by simp at h
  | _, _, .cons h1 t, 0, v, h => by simp at h; subst h; exact ⟨_, rfl, h1⟩
  | _, _, .cons h1 t, i + 1, v, h => by
    simp only [List.getElem?_cons_succ] at h ⊢
    exact each_get t i v h

end
end EK


namespace EK
open PySem PySem.Spec PyProof.Rows L2

/-- plain data -/
inductive D where
  | non | bl (b : Bool) | int (i : Int) | str (x : Str)
  | tup (xs : List D) | lst (xs : List D)
  /-- an instance of the class c: its attributes by name -/
  | obj (c : Str) (ns : List Str) (xs : List D)
  /-- the drawing object -/
  | drw
  /-- the script -/
  | scr (xs : List Int)
  /-- a dict with numbers and texts as keys; one with tuples of these -/
  | dct (ks : List L2.Key) (xs : List D)
  | dcT (ks : List (List L2.Key)) (xs : List D)
  /-- a caught exception of the class c: its attributes by name -/
  | exc (c : Str) (ns : List Str) (xs : List D)
  /-- an exception made with a message alone, told by str() -/
  | exm (c : Str) (m : Str)
  /-- a dict whose keys are tuples of any depth: the keys by their data -/
  | dcN (ks : List D) (xs : List D)
  /-- a tuple that is known to have no dict of its own -/
  | ptp (xs : List D)
mutual
/-- data as a key -/
def nkD : D → Option NestedKey
  | .int i => some (.num i)
  | .str x => some (.text x)
  | .tup ds => (nkDs ds).map .tup
  | _ => none
def nkDs : List D → Option (List NestedKey)
  | [] => some []
  | d :: ds => (nkD d).bind fun k => (nkDs ds).map fun ks => k :: ks
end
def isTupK : NestedKey → Bool
  | .tup _ => true
  | _ => false

/-- where the drawing object stands: the dict, its list of wide numbers, its list of cells -/
structure Dr (wd : World) where
  a : Addr
  w : Addr
  c : Addr
  /-- the instance that __init__ fills, its dict -/
  o : Addr
  ox : Addr
  /-- the tables of code objects of those that make lambdas, with the lambdas' name -/
  tabs : List (Addr × Str)
def Dr.has {wd : World} (dl : Dr wd) (b : Addr) : Prop := b = dl.a ∨ b = dl.w ∨ b = dl.c ∨ ∃ q, (b, q) ∈ dl.tabs
/-- a caught exception at a: its class, its own dict -/
def ExK (a : Addr) (cls : Value) (d : Option Addr) : HO := .ext fun h => ∃ (oe : Obj) (vs : Array Value), h.get? a = some oe ∧ Zc cls d oe ∧ oe.data = .fields vs
/-- an exception at a: its class, where its arguments stand -/
def ExM (a : Addr) (cls : Value) (t : Addr) : HO := .ext fun h => ∃ (oe : Obj) (vs : Array Value), h.get? a = some oe ∧ Zc cls none oe ∧ oe.data = .fields vs ∧ vs[0]? = some (.ref t)
/-- an entry of a dict whose keys are tuples -/
def entN (w : World) (k : NestedKey) (b : Addr) (u : Value) : DictEntry := { hash := k.hash w, key := .ref b, val := u }
def entsN (w : World) : List NestedKey → List Addr → List Value → List DictEntry
  | k :: ks, b :: bs, u :: us => entN w k b u :: entsN w ks bs us
  | _, _, _ => []
/-- a dict at a whose keys are tuples: the keys, where they stand, the values -/
def DkN (w : World) (a : Addr) (ks : List NestedKey) (bs : List Addr) (vs : List V) : HO := .ext fun h => (a == sysModules) = false ∧ ∃ (us : List Value) (o : Obj) (es : Array DictEntry) (ep : Nat), Vals vs us ∧ h.get? a = some o ∧ o.ExactDict ∧ o.data = .dict es ep ∧ es.toList = entsN w ks bs us
/-- the drawing state -/
structure DS where
  wide : List Int
  cells : List Int
  rest : Int
  turn : Int

section
variable (K : PySem.W.Frag) (mg : Str → Option Value) {wd : World} (dl : Dr wd) (F : Hp)
mutual
def Rep : D → V → Prop
  | .non, v => v = .non
  | .bl b, v => v = .bl b
  | .int i, v => v = .int i
  | .str x, v => v = .str x
  | .tup xs, v => ∃ (a : Addr) (vs : List V), v = .ref a ∧ SqT K F a vs ∧ vs.length ≤ sizeLine ∧ RepL xs vs
  | .lst xs, v => ∃ (a : Addr) (vs : List V), v = .ref a ∧ F a = some (.lst vs) ∧ vs.length ≤ sizeLine ∧ RepL xs vs
  | .obj c ns xs, v => ∃ (a dx C : Addr) (vs : List V), v = .ref a ∧ mg c = some (.ref C) ∧ F a = some (.ins C dx (ns.zip vs)) ∧ F dx = some (.own a) ∧ ns.length = vs.length ∧ RepL xs vs
  | .drw, v => v = .ref dl.a
  | .scr xs, v => ∃ a : Addr, v = .ref a ∧ SqL K F a (xs.map V.int) ∧ xs.length ≤ 63
  | .dct ks xs, v => ∃ (a : Addr) (o : Obj) (vs : List V), v = .ref a ∧ F a = some (.frz o (.dK (ks.zip vs))) ∧ ks.length = vs.length ∧ (ks.length ≤ 1000 ∧ ks.Nodup) ∧ RepL xs vs
  | .dcT ks xs, v => ∃ (a : Addr) (o : Obj) (vs : List V), v = .ref a ∧ F a = some (.frz o (.dT (ks.zip vs))) ∧ ks.length = vs.length ∧ (ks.length ≤ 1000 ∧ ks.Nodup) ∧ RepL xs vs
  | .exc c ns xs, v => ∃ (a C : Addr) (vs : List V), v = .ref a ∧ mg c = some (.ref C) ∧ ns.length = vs.length ∧ ((ns = [] ∧ F a = some (ExK a (.ref C) none)) ∨ ∃ d, ns ≠ [] ∧ F a = some (ExK a (.ref C) (some d)) ∧ F d = some (.xd (ns.zip vs))) ∧ RepL xs vs
  | .exm c m, v => ∃ (a C t : Addr), v = .ref a ∧ mg c = some (.ref C) ∧ F a = some (ExM a (.ref C) t) ∧ F t = some (.tup [.str m])
  | .dcN ks xs, v => ∃ (a : Addr) (nks : List NestedKey) (bs : List Addr) (vs : List V), v = .ref a ∧ F a = some (DkN wd a nks bs vs) ∧ (bs.length = nks.length ∧ vs.length = nks.length) ∧ (nks.length ≤ 1000 ∧ nks.Nodup ∧ ∀ k ∈ nks, isTupK k = true ∧ k.depth ≤ 8) ∧ nkDs ks = some nks ∧ RepL ks (bs.map V.ref) ∧ RepL xs vs
  | .ptp xs, v => ∃ (a : Addr) (o : Obj) (vs : List V), v = .ref a ∧ F a = some (.frz o (.tup vs)) ∧ o.dict = none ∧ vs.length ≤ sizeLine ∧ RepL xs vs
def RepL : List D → List V → Prop
  | [], vs => vs = []
  | d :: ds, vs => ∃ (v : V) (vs' : List V), vs = v :: vs' ∧ Rep d v ∧ RepL ds vs'
end
end

theorem Same.seqT {K : PySem.W.Frag} {H H' : Hp} {a : Addr} {xs : List V} (e : Same H H') (h : SqT K H a xs) : SqT K H' a xs := by
  rcases h with (h | ⟨o, h⟩) | h
  · exact .inl (.inl (e _ _ h))
  · exact .inl (.inr ⟨o, e _ _ h⟩)
  · exact .inr h

section
variable {K : PySem.W.Frag} {mg : Str → Option Value} {wd : World} {dl : Dr wd} {F F' : Hp}
mutual
theorem Rep.mono (e : Same F F') : ∀ (d : D) (v : V), Rep K mg dl F d v → Rep K mg dl F' d v
  | .non, _, h => h
  | .bl _, _, h => h
  | .int _, _, h => h
  | .str _, _, h => h
  | .drw, _, h => h
  | .scr xs, v, h => by
    obtain ⟨a, h1, h2, h3⟩ := h
    exact ⟨a, h1, L2.Same.seq e h2, h3⟩
  | .tup xs, v, h => by
    obtain ⟨a, vs, h1, h2, h3, h4⟩ := h
    exact ⟨a, vs, h1, Same.seqT e h2, h3, RepL.mono e xs vs h4⟩
  | .lst xs, v, h => by
    obtain ⟨a, vs, h1, h2, h3, h4⟩ := h
    exact ⟨a, vs, h1, e _ _ h2, h3, RepL.mono e xs vs h4⟩
  | .obj c ns xs, v, h => by
    obtain ⟨a, dx, C, vs, h1, h2, h3, h4, h5, h6⟩ := h
    exact ⟨a, dx, C, vs, h1, h2, e _ _ h3, e _ _ h4, h5, RepL.mono e xs vs h6⟩
  | .dct ks xs, v, h => by
    obtain ⟨a, o, vs, h1, h2, h3, h4, h5⟩ := h
    exact ⟨a, o, vs, h1, e _ _ h2, h3, h4, RepL.mono e xs vs h5⟩
  | .dcT ks xs, v, h => by
    obtain ⟨a, o, vs, h1, h2, h3, h4, h5⟩ := h
    exact ⟨a, o, vs, h1, e _ _ h2, h3, h4, RepL.mono e xs vs h5⟩
  | .exc c ns xs, v, h => by
    obtain ⟨a, C, vs, h1, h2, h3, h4, h5⟩ := h
    refine ⟨a, C, vs, h1, h2, h3, ?_, RepL.mono e xs vs h5⟩
    rcases h4 with ⟨q1, q2⟩ | ⟨d, q1, q2, q3⟩
    · exact .inl ⟨q1, e _ _ q2⟩
    · exact .inr ⟨d, q1, e _ _ q2, e _ _ q3⟩
  | .exm c m, v, h => by
    obtain ⟨a, C, t, h1, h2, h3, h4⟩ := h
    exact ⟨a, C, t, h1, h2, e _ _ h3, e _ _ h4⟩
  | .dcN ks xs, v, h => by
    obtain ⟨a, nks, bs, vs, h1, h2, h3, h4, h5, h6, h7⟩ := h
    exact ⟨a, nks, bs, vs, h1, e _ _ h2, h3, h4, h5, RepL.mono e ks _ h6, RepL.mono e xs vs h7⟩
  | .ptp xs, v, h => by
    obtain ⟨a, o, vs, h1, h2, h3, h4, h5⟩ := h
    exact ⟨a, o, vs, h1, e _ _ h2, h3, h4, RepL.mono e xs vs h5⟩
theorem RepL.mono (e : Same F F') : ∀ (ds : List D) (vs : List V), RepL K mg dl F ds vs → RepL K mg dl F' ds vs
  | [], _, h => h
  | d :: ds, vs, h => by
    obtain ⟨v, vs', h1, h2, h3⟩ := h
    exact ⟨v, vs', h1, Rep.mono e d v h2, RepL.mono e ds vs' h3⟩
end
mutual
theorem Rep.dl {dl' : Dr wd} (h : dl.a = dl'.a) : ∀ (d : D) (v : V), Rep K mg dl F d v → Rep K mg dl' F d v
  | .non, _, h => h
  | .bl _, _, h => h
  | .int _, _, h => h
  | .str _, _, h => h
  | .drw, v, q => by
    have q : v = .ref dl.a := q
    show v = .ref dl'.a
    rw [← h]; exact q
  | .scr xs, v, q => q
  | .tup xs, v, q => by
    obtain ⟨a, vs, h1, h2, h3, h4⟩ := q
    exact ⟨a, vs, h1, h2, h3, RepL.dl h xs vs h4⟩
  | .lst xs, v, q => by
    obtain ⟨a, vs, h1, h2, h3, h4⟩ := q
    exact ⟨a, vs, h1, h2, h3, RepL.dl h xs vs h4⟩
  | .obj c ns xs, v, q => by
    obtain ⟨a, dx, C, vs, h1, h2, h3, h4, h5, h6⟩ := q
    exact ⟨a, dx, C, vs, h1, h2, h3, h4, h5, RepL.dl h xs vs h6⟩
  | .dct ks xs, v, q => by
    obtain ⟨a, o, vs, h1, h2, h3, h4, h5⟩ := q
    exact ⟨a, o, vs, h1, h2, h3, h4, RepL.dl h xs vs h5⟩
  | .dcT ks xs, v, q => by
    obtain ⟨a, o, vs, h1, h2, h3, h4, h5⟩ := q
    exact ⟨a, o, vs, h1, h2, h3, h4, RepL.dl h xs vs h5⟩
  | .exc c ns xs, v, q => by
    obtain ⟨a, C, vs, h1, h2, h3, h4, h5⟩ := q
    exact ⟨a, C, vs, h1, h2, h3, h4, RepL.dl h xs vs h5⟩
  | .exm c m, v, q => q
  | .dcN ks xs, v, q => by
    obtain ⟨a, nks, bs, vs, h1, h2, h3, h4, h5, h6, h7⟩ := q
    exact ⟨a, nks, bs, vs, h1, h2, h3, h4, h5, RepL.dl h ks _ h6, RepL.dl h xs vs h7⟩
  | .ptp xs, v, q => by
    obtain ⟨a, o, vs, h1, h2, h3, h4, h5⟩ := q
    exact ⟨a, o, vs, h1, h2, h3, h4, RepL.dl h xs vs h5⟩
theorem RepL.dl {dl' : Dr wd} (h : dl.a = dl'.a) : ∀ (ds : List D) (vs : List V), RepL K mg dl F ds vs → RepL K mg dl' F ds vs
  | [], _, h => h
  | d :: ds, vs, q => by
    obtain ⟨v, vs', h1, h2, h3⟩ := q
    exact ⟨v, vs', h1, Rep.dl h d v h2, RepL.dl h ds vs' h3⟩
end
/-- read as a tuple -/
def unp : D → D
  | .ptp xs => .tup xs
  | d => d
theorem Rep.unp : ∀ {d : D} {v : V}, Rep K mg dl F d v → Rep K mg dl F (EK.unp d) v
  | .ptp xs, v, h => by
    obtain ⟨a, o, vs, h1, h2, h3, h4, h5⟩ := h
    exact ⟨a, vs, h1, .inl (.inr ⟨o, h2⟩), h4, h5⟩
  | .non, _, h => h
  | .bl _, _, h => h
  | .int _, _, h => h
  | .str _, _, h => h
  | .drw, _, h => h
  | .scr _, _, h => h
  | .tup _, _, h => h
  | .lst _, _, h => h
  | .obj _ _ _, _, h => h
  | .dct _ _, _, h => h
  | .dcT _ _, _, h => h
  | .exc _ _ _, _, h => h
  | .exm _ _, _, h => h
  | .dcN _ _, _, h => h
theorem RepL.length : ∀ {ds : List D} {vs : List V}, RepL K mg dl F ds vs → ds.length = vs.length
  | [], _, h => by have h : _ = [] := h; rw [h]; rfl
  | d :: ds, vs, h => by
    obtain ⟨v, vs', h1, h2, h3⟩ := h
    rw [h1, List.length_cons, List.length_cons, RepL.length h3]
theorem RepL.get : ∀ {ds : List D} {vs : List V} {i : Nat} {d : D}, RepL K mg dl F ds vs → ds[i]? = some d → ∃ v, vs[i]? = some v ∧ Rep K mg dl F d v
  | [], _, _, _, _, e => by simp at e
  | _ :: _, _, 0, _, h, e => by
    obtain ⟨v, vs', h1, h2, h3⟩ := h
    simp at e; subst e; subst h1
    exact ⟨v, rfl, h2⟩
  | _ :: ds, _, i + 1, d, h, e => by
    obtain ⟨v, vs', h1, h2, h3⟩ := h
    subst h1
    obtain ⟨u, q1, q2⟩ := RepL.get (i := i) (d := d) h3 (by simpa using e)
    exact ⟨u, by simpa using q1, q2⟩
theorem RepL.get' : ∀ {ds : List D} {vs : List V} {i : Nat} {v : V}, RepL K mg dl F ds vs → vs[i]? = some v → ∃ d, ds[i]? = some d ∧ Rep K mg dl F d v
  | [], vs, _, _, h, e => by have h : vs = [] := h; subst h; simp at e
  | _ :: _, _, 0, _, h, e => by
    obtain ⟨v, vs', h1, h2, h3⟩ := h
    subst h1
    simp at e; subst e
    exact ⟨_, rfl, h2⟩
  | _ :: ds, _, i + 1, d, h, e => by
    obtain ⟨v, vs', h1, h2, h3⟩ := h
    subst h1
    obtain ⟨u, q1, q2⟩ := RepL.get' (i := i) h3 (by simpa using e)
    exact ⟨u, by simpa using q1, q2⟩
theorem RepL.append : ∀ {ds es : List D} {vs ws : List V}, RepL K mg dl F ds vs → RepL K mg dl F es ws → RepL K mg dl F (ds ++ es) (vs ++ ws)
  | [], _, _, _, h, h' => by have h : _ = [] := h; subst h; exact h'
  | d :: ds, es, _, ws, h, h' => by
    obtain ⟨v, vs', h1, h2, h3⟩ := h
    subst h1
    exact ⟨v, vs' ++ ws, rfl, h2, RepL.append h3 h'⟩
theorem RepL.nil : RepL K mg dl F [] [] := rfl
theorem RepL.cons {d : D} {ds : List D} {v : V} {vs : List V} (h : Rep K mg dl F d v) (t : RepL K mg dl F ds vs) : RepL K mg dl F (d :: ds) (v :: vs) := ⟨v, vs, rfl, h, t⟩
theorem RepL.take : ∀ {ds : List D} {vs : List V} (n : Nat), RepL K mg dl F ds vs → RepL K mg dl F (ds.take n) (vs.take n)
  | _, _, 0, _ => rfl
  | [], vs, n + 1, h => by have h : vs = [] := h; subst h; rfl
  | d :: ds, vs, n + 1, h => by
    obtain ⟨v, vs', h1, h2, h3⟩ := h
    subst h1
    exact ⟨v, vs'.take n, rfl, h2, RepL.take n h3⟩
theorem RepL.drop : ∀ {ds : List D} {vs : List V} (n : Nat), RepL K mg dl F ds vs → RepL K mg dl F (ds.drop n) (vs.drop n)
  | _, _, 0, h => h
  | [], vs, n + 1, h => by have h : vs = [] := h; subst h; rfl
  | d :: ds, vs, n + 1, h => by
    obtain ⟨v, vs', h1, h2, h3⟩ := h
    subst h1
    exact RepL.drop n h3
end

/-- an exception: its class, its attributes by name -/
structure Exn where
  cls : Str
  ns : List Str
  xs : List D
inductive Res (α : Type) where
  | ok (a : α) | err (x : Exn)
abbrev M (α : Type) := DS → Option (Res α × DS)
def ret {α : Type} (a : α) : M α := fun s => some (.ok a, s)
def fail {α : Type} : M α := fun _ => none
def throw {α : Type} (x : Exn) : M α := fun s => some (.err x, s)
def bnd {α β : Type} (m : M α) (k : α → M β) : M β := fun s => match m s with
  | none => none
  | some (.ok a, s') => k a s'
  | some (.err x, s') => some (.err x, s')
@[simp] theorem bnd_ret {α β : Type} (a : α) (k : α → M β) : bnd (ret a) k = k a := rfl
@[simp] theorem bnd_fail {α β : Type} (k : α → M β) : bnd (fail : M α) k = fail := rfl
theorem bnd_assoc {α β γ : Type} (m : M α) (k : α → M β) (l : β → M γ) : bnd (bnd m k) l = bnd m fun a => bnd (k a) l := by
  funext s
  unfold bnd
  cases m s with
  | none => rfl
  | some p => obtain ⟨r, s'⟩ := p; cases r <;> rfl
/-- an option as a computation -/
def ofO {α : Type} : Option α → M α
  | none => fail
  | some a => ret a
@[simp] theorem ofO_some {α : Type} (a : α) : ofO (some a) = ret a := rfl
@[simp] theorem ofO_none {α : Type} : ofO (none : Option α) = fail := rfl
/-- what is raised cannot be (within a comprehension) -/
def noErr {α : Type} (m : M α) : M α := fun s => match m s with
  | some (.ok a, s') => some (.ok a, s')
  | _ => none
@[simp] theorem noErr_ret {α : Type} (a : α) : noErr (ret a) = ret a := rfl

def DrawOk {wd : World} (dl : Dr wd) (H : Hp) (s : DS) : Prop :=
  H dl.a = some (.dK [(Sum.inr "wide", .ref dl.w), (Sum.inr "cells", .ref dl.c), (Sum.inr "rest", .int s.rest), (Sum.inr "turn", .int s.turn)]) ∧
    H dl.w = some (.lst (s.wide.map V.int)) ∧ H dl.c = some (.lst (s.cells.map V.int)) ∧ dl.w ≠ dl.c
/-- neither a table nor a code object -/
def NotTbl (o : HO) : Prop := ∀ ps, o ≠ .tbl ps
def NotCode (o : HO) : Prop := ∀ c q, o ≠ LamX.CodeO c q
/-- the tables of code objects: what they tell never changes; there are no others -/
structure TabF (T : List (Addr × Str)) (F H : Hp) : Prop where
  at_ : ∀ p ∈ T, ∃ ps : Array Value, H p.1 = some (.tbl ps) ∧ TriplesOk ps.toList ∧ ∀ (pos : Pos) (cv : Value), codeAmong pos ps.toList = some cv → ∃ c, cv = .ref c ∧ F c = some (LamX.CodeO c p.2)
  nt : ∀ b ps, H b = some (.tbl ps) → ∃ q, (b, q) ∈ T
  cd : ∀ b c q, H b = some (LamX.CodeO c q) → F b = some (LamX.CodeO c q)
theorem TabF.mono {T : List (Addr × Str)} {F F' H H' : Hp} (t : TabF T F H) (e : Same F F') (k : ∀ p ∈ T, ∀ ps, H p.1 = some (.tbl ps) → H' p.1 = some (.tbl ps))
    (n : ∀ b o, H' b = some o → H b = some o ∨ (NotTbl o ∧ (NotCode o ∨ F' b = some o))) : TabF T F' H' := by
  refine ⟨fun p hp => ?_, fun b ps h => ?_, fun b c q h => ?_⟩
  · obtain ⟨ps, h1, h2, h3⟩ := t.at_ p hp
    refine ⟨ps, k p hp ps h1, h2, fun pos cv hc => ?_⟩
    obtain ⟨c, e1, e2⟩ := h3 pos cv hc
    exact ⟨c, e1, e _ _ e2⟩
  · rcases n b _ h with z | ⟨z, _⟩
    · exact t.nt b ps z
    · exact absurd rfl (z ps)
  · rcases n b _ h with z | ⟨_, z | z⟩
    · exact e _ _ (t.cd b c q z)
    · exact absurd rfl (z c q)
    · exact z
theorem TabF.upd {T : List (Addr × Str)} {F F' H : Hp} {p : Addr} {o : HO} (t : TabF T F H) (e : Same F F') (hp : ∀ q ∈ T, q.1 ≠ p) (ho : NotTbl o) (hc : NotCode o ∨ F' p = some o) : TabF T F' (upd H p o) :=
  t.mono e (fun q hq ps z => by rw [upd_ne (hp q hq)]; exact z) fun b u z => by
    by_cases h : b = p
    · subst h
      rw [upd_same] at z
      cases z
      exact .inr ⟨ho, hc⟩
    · rw [upd_ne h] at z
      exact .inl z
/-- F: what never changes any more -/
structure Wd {wd : World} (dl : Dr wd) (F H : Hp) (s : DS) : Prop where
  sub : Same F H
  off : ∀ b, dl.has b → F b = none
  dr : DrawOk dl H s
  tb : TabF dl.tabs F H
structure Step {wd : World} (dl : Dr wd) (F H F' H' : Hp) : Prop where
  fs : Same F F'
  hs : ∀ b o, ¬ dl.has b → H b = some o → H' b = some o
  nw : ∀ b o, F' b = some o → F b = some o ∨ H b = none
  al : ∀ b, H' b = none → H b = none
theorem Step.refl {wd : World} {dl : Dr wd} {F H : Hp} : Step dl F H F H := ⟨fun _ _ h => h, fun _ _ _ h => h, fun _ _ h => .inl h, fun _ h => h⟩
theorem Step.trans {wd : World} {dl : Dr wd} {F H F1 H1 F2 H2 : Hp} (a : Step dl F H F1 H1) (b : Step dl F1 H1 F2 H2) : Step dl F H F2 H2 :=
  ⟨fun c o h => b.fs c o (a.fs c o h), fun c o n h => b.hs c o n (a.hs c o n h), fun c o h => by
    rcases b.nw c o h with q | q
    · exact a.nw c o q
    · exact .inr (a.al c q), fun c h => a.al c (b.al c h)⟩
theorem Wd.na {wd : World} {dl : Dr wd} {F H : Hp} {s : DS} (w : Wd dl F H s) {p : Addr} (h : H p = none) : ¬ dl.has p := fun z => by
  obtain ⟨h1, h2, h3, _⟩ := w.dr
  rcases z with z | z | z | ⟨q, z⟩
  · rw [← z, h] at h1; cases h1
  · rw [← z, h] at h2; cases h2
  · rw [← z, h] at h3; cases h3
  · obtain ⟨ps, h4, _⟩ := w.tb.at_ _ z
    rw [h] at h4; cases h4
theorem Wd.ne {wd : World} {dl : Dr wd} {F H : Hp} {s : DS} (w : Wd dl F H s) {p b : Addr} (h : H p = none) (hb : dl.has b) : b ≠ p := fun z => w.na h (by rw [← z]; exact hb)
theorem Wd.fnone {wd : World} {dl : Dr wd} {F H : Hp} {s : DS} (w : Wd dl F H s) {p : Addr} (h : H p = none) : F p = none := by
  cases e : F p with
  | none => rfl
  | some o => rw [w.sub p o e] at h; cases h
/-- a new object that never changes -/
theorem Wd.new {wd : World} {dl : Dr wd} {F H : Hp} {s : DS} (w : Wd dl F H s) {p : Addr} {o : HO} (h : H p = none) (ho : NotTbl o := by intro _ z; cases z) : Wd dl (upd F p o) (upd H p o) s := by
  have na := w.na h
  refine ⟨fun b u e => ?_, fun b hb => ?_, ?_, w.tb.upd (fun b u e => by rw [upd_ne (ne_of_none (w.sub b u e) h)]; exact e) (fun q hq z => w.na h (.inr (.inr (.inr ⟨q.2, by rw [← z]; exact hq⟩)))) ho (.inr upd_same)⟩
  · by_cases z : b = p
    · subst z; rw [upd_same] at e ⊢; exact e
    · rw [upd_ne z] at e ⊢; exact w.sub b u e
  · rw [upd_ne (w.ne h hb)]; exact w.off b hb
  · obtain ⟨h1, h2, h3, g⟩ := w.dr
    refine ⟨?_, ?_, ?_, g⟩
    · rw [upd_ne (w.ne h (.inl rfl))]; exact h1
    · rw [upd_ne (w.ne h (.inr (.inl rfl)))]; exact h2
    · rw [upd_ne (w.ne h (.inr (.inr (.inl rfl))))]; exact h3
theorem Step.new {wd : World} {dl : Dr wd} {F H : Hp} {s : DS} (w : Wd dl F H s) {p : Addr} {o : HO} (h : H p = none) : Step dl F H (upd F p o) (upd H p o) :=
  ⟨fun b u e => by rw [upd_ne (ne_of_none e (w.fnone h))]; exact e, fun b u _ e => by rw [upd_ne (ne_of_none e h)]; exact e, fun b u e => by
    by_cases z : b = p
    · subst z; exact .inr h
    · rw [upd_ne z] at e; exact .inl e, fun b e => by
    by_cases z : b = p
    · subst z; exact h
    · rw [upd_ne z] at e; exact e⟩
/-- a new object that may change yet -/
theorem Wd.newO {wd : World} {dl : Dr wd} {F H : Hp} {s : DS} (w : Wd dl F H s) {p : Addr} {o : HO} (h : H p = none) (ho : NotTbl o := by intro _ z; cases z) (hc : NotCode o := by intro _ _ z; unfold LamX.CodeO at z; cases z) : Wd dl F (upd H p o) s := by
  have na := w.na h
  refine ⟨fun b u e => ?_, w.off, ?_, w.tb.upd (fun _ _ e => e) (fun q hq z => w.na h (.inr (.inr (.inr ⟨q.2, by rw [← z]; exact hq⟩)))) ho (.inl hc)⟩
  · rw [upd_ne (ne_of_none (w.sub b u e) h)]; exact w.sub b u e
  · obtain ⟨h1, h2, h3, g⟩ := w.dr
    refine ⟨?_, ?_, ?_, g⟩
    · rw [upd_ne (w.ne h (.inl rfl))]; exact h1
    · rw [upd_ne (w.ne h (.inr (.inl rfl)))]; exact h2
    · rw [upd_ne (w.ne h (.inr (.inr (.inl rfl))))]; exact h3
theorem Step.newO {wd : World} {dl : Dr wd} {F H : Hp} {p : Addr} {o : HO} (h : H p = none) : Step dl F H F (upd H p o) :=
  ⟨fun _ _ e => e, fun b u _ e => by rw [upd_ne (ne_of_none e h)]; exact e, fun b u e => .inl e, fun b e => by
    by_cases z : b = p
    · subst z; exact h
    · rw [upd_ne z] at e; exact e⟩

/-- the keys of an own dict: numbers and texts, or tuples of these -/
inductive OK where
  | k (ks : List L2.Key) | t (ks : List (List L2.Key)) | u (n : Nat)
def OK.len : OK → Nat
  | .k ks => ks.length
  | .t ks => ks.length
  | .u n => n
def OK.nd : OK → Prop
  | .k ks => ks.Nodup
  | .t ks => ks.Nodup
  | .u _ => False
/-- .. and within a tree, where a tuple may stand too -/
def OK.ndT : OK → Prop
  | .k ks => ks.Nodup
  | .t ks => ks.Nodup
  | .u _ => True
def OK.ho : OK → List V → HO
  | .k ks, vs => .dK (ks.zip vs)
  | .t ks, vs => .dT (ks.zip vs)
  | .u _, vs => .tup vs
def OK.data : OK → List D → D
  | .k ks, ds => .dct ks ds
  | .t ks, ds => .dcT ks ds
  | .u _, ds => .tup ds
/-- a tree of lists and dicts of the def's own, with values that never change as leaves -/
inductive T where
  | fz (d : D)
  | lst (ts : List T)
  | dct (k : OK) (ts : List T)
mutual
def T.data : T → D
  | .fz d => d
  | .lst ts => .lst (T.datas ts)
  | .dct k ts => k.data (T.datas ts)
def T.datas : List T → List D
  | [] => []
  | t :: ts => t.data :: T.datas ts
end
inductive Sl where
  /-- a value that never changes -/
  | fz (d : D)
  /-- a list of the def's own, which nobody else knows -/
  | own (ds : List D)
  /-- the instance that __init__ fills -/
  | ini (c : Str) (ns : List Str) (ds : List D)
  /-- a dict of the def's own, which nobody else knows -/
  | ownX (k : OK) (ds : List D)
  /-- a tree of the def's own -/
  | tree (t : T)
abbrev Sls := List (Option Sl)
def Sl.isOwn : Sl → Bool
  | .fz _ => false
  | .tree _ => false
  | _ => true

section
variable (K : PySem.W.Frag) (mg : Str → Option Value) {wd : World} (dl : Dr wd) (H0 F H : Hp)
def SlOk : Sl → V → Prop
  | .fz d, v => Rep K mg dl F d v
  | .own ds, v => ∃ (a : Addr) (vs : List V), v = .ref a ∧ H a = some (.lst vs) ∧ F a = none ∧ H0 a = none ∧ ¬ dl.has a ∧ vs.length ≤ sizeLine ∧ RepL K mg dl F ds vs
  | .ini c ns ds, v => ∃ (a dx C : Addr) (vs : List V), v = .ref a ∧ mg c = some (.ref C) ∧ H a = some (.ins C dx (ns.zip vs)) ∧ H dx = some (.own a) ∧ F a = none ∧ F dx = none ∧ H0 a = none ∧ H0 dx = none ∧ ¬ dl.has a ∧ ¬ dl.has dx ∧
      ns.length = vs.length ∧ (ns.length ≤ 900 ∧ a = dl.o ∧ dx = dl.ox) ∧ RepL K mg dl F ds vs
  | .ownX k ds, v => ∃ (a : Addr) (vs : List V), v = .ref a ∧ H a = some (k.ho vs) ∧ F a = none ∧ H0 a = none ∧ ¬ dl.has a ∧ k.len = vs.length ∧ (k.len ≤ 1000 ∧ k.nd) ∧ RepL K mg dl F ds vs
  | .tree _, _ => True
end
section
variable (K : PySem.W.Frag) (mg : Str → Option Value) {wd : World} (dl : Dr wd) (F H : Hp)
mutual
/-- v stands for the tree t, whose lists and dicts lie at as -/
def TR : T → V → List Addr → Prop
  | .fz d, v, as => as = [] ∧ Rep K mg dl F d v
  | .lst ts, v, as => ∃ (a : Addr) (vs : List V) (bs : List Addr), v = .ref a ∧ as = a :: bs ∧ H a = some (.lst vs) ∧ vs.length ≤ sizeLine ∧ TRL ts vs bs
  | .dct k ts, v, as => ∃ (a : Addr) (vs : List V) (bs : List Addr), v = .ref a ∧ as = a :: bs ∧ H a = some (k.ho vs) ∧ k.len = vs.length ∧ (k.len ≤ 1000 ∧ k.ndT) ∧ TRL ts vs bs
def TRL : List T → List V → List Addr → Prop
  | [], vs, as => vs = [] ∧ as = []
  | t :: ts, vs, as => ∃ (v : V) (vs' : List V) (a1 a2 : List Addr), vs = v :: vs' ∧ as = a1 ++ a2 ∧ TR t v a1 ∧ TRL ts vs' a2
end
end
section
variable {K : PySem.W.Frag} {mg : Str → Option Value} {wd : World} {dl : Dr wd} {F H F' H' : Hp}
mutual
theorem TR.mono (e : Same F F') : ∀ (t : T) (v : V) (as : List Addr), (∀ a ∈ as, H' a = H a) → TR K mg dl F H t v as → TR K mg dl F' H' t v as
  | .fz d, v, as, _, h => ⟨h.1, Rep.mono e d v h.2⟩
  | .lst ts, v, as, q, h => by
    obtain ⟨a, vs, bs, h1, rfl, h3, h4, h5⟩ := h
    exact ⟨a, vs, bs, h1, rfl, by rw [q a (.head _)]; exact h3, h4, TRL.mono e ts vs bs (fun b hb => q b (.tail _ hb)) h5⟩
  | .dct k ts, v, as, q, h => by
    obtain ⟨a, vs, bs, h1, rfl, h3, h4, h5, h6⟩ := h
    exact ⟨a, vs, bs, h1, rfl, by rw [q a (.head _)]; exact h3, h4, h5, TRL.mono e ts vs bs (fun b hb => q b (.tail _ hb)) h6⟩
theorem TRL.mono (e : Same F F') : ∀ (ts : List T) (vs : List V) (as : List Addr), (∀ a ∈ as, H' a = H a) → TRL K mg dl F H ts vs as → TRL K mg dl F' H' ts vs as
  | [], _, _, _, h => h
  | t :: ts, vs, as, q, h => by
    obtain ⟨v, vs', a1, a2, h1, rfl, h3, h4⟩ := h
    exact ⟨v, vs', a1, a2, h1, rfl, TR.mono e t v a1 (fun b hb => q b (List.mem_append_left _ hb)) h3, TRL.mono e ts vs' a2 (fun b hb => q b (List.mem_append_right _ hb)) h4⟩
end
mutual
theorem TR.some : ∀ (t : T) (v : V) (as : List Addr), TR K mg dl F H t v as → ∀ a ∈ as, ∃ o, H a = some o
  | .fz d, v, as, h => by
    obtain ⟨rfl, _⟩ := h
    exact fun a ha => nomatch ha
  | .lst ts, v, as, h => by
    obtain ⟨a, vs, bs, h1, rfl, h3, h4, h5⟩ := h
    intro b hb
    rcases List.mem_cons.mp hb with rfl | hb
    · exact ⟨_, h3⟩
    · exact TRL.some ts vs bs h5 b hb
  | .dct k ts, v, as, h => by
    obtain ⟨a, vs, bs, h1, rfl, h3, h4, h5, h6⟩ := h
    intro b hb
    rcases List.mem_cons.mp hb with rfl | hb
    · exact ⟨_, h3⟩
    · exact TRL.some ts vs bs h6 b hb
theorem TRL.some : ∀ (ts : List T) (vs : List V) (as : List Addr), TRL K mg dl F H ts vs as → ∀ a ∈ as, ∃ o, H a = some o
  | [], _, _, h => by
    obtain ⟨_, rfl⟩ := h
    exact fun a ha => nomatch ha
  | t :: ts, vs, as, h => by
    obtain ⟨v, vs', a1, a2, h1, rfl, h3, h4⟩ := h
    intro b hb
    rcases List.mem_append.mp hb with hb | hb
    · exact TR.some t v a1 h3 b hb
    · exact TRL.some ts vs' a2 h4 b hb
end
theorem zip_snd_inj {α β : Type} : ∀ {ks : List α} {vs ws : List β}, ks.length = vs.length → ks.length = ws.length → ks.zip vs = ks.zip ws → vs = ws
  | [], [], [], _, _, _ => rfl
  | [], _ :: _, _, h, _, _ => by cases h
  | [], [], _ :: _, _, h, _ => by cases h
  | _ :: _, [], _, h, _, _ => by cases h
  | _ :: _, _ :: _, [], _, h, _ => by cases h
  | k :: ks, v :: vs, w :: ws, h1, h2, e => by
    rw [List.zip_cons_cons, List.zip_cons_cons, List.cons.injEq, Prod.mk.injEq] at e
    rw [e.1.2, zip_snd_inj (Nat.succ.inj h1) (Nat.succ.inj h2) e.2]
theorem OK.ho_inj {k : OK} {vs ws : List V} (h1 : k.len = vs.length) (h2 : k.len = ws.length) (e : k.ho vs = k.ho ws) : vs = ws := by
  cases k with
  | k ks => exact zip_snd_inj h1 h2 (by injection e)
  | t ks => exact zip_snd_inj h1 h2 (by injection e)
  | u n => injection e
mutual
theorem TR.det : ∀ (t : T) (v : V) (as bs : List Addr), TR K mg dl F H t v as → TR K mg dl F H t v bs → as = bs
  | .fz d, v, as, bs, h, h' => by rw [h.1, h'.1]
  | .lst ts, v, as, bs, h, h' => by
    obtain ⟨a, vs, a1, rfl, rfl, h3, h4, h5⟩ := h
    obtain ⟨b, ws, b1, e, rfl, g3, g4, g5⟩ := h'
    cases e
    rw [h3] at g3
    cases g3
    rw [TRL.det ts vs a1 b1 h5 g5]
  | .dct k ts, v, as, bs, h, h' => by
    obtain ⟨a, vs, a1, rfl, rfl, h3, h4, h5, h6⟩ := h
    obtain ⟨b, ws, b1, e, rfl, g3, g4, g5, g6⟩ := h'
    cases e
    rw [h3] at g3
    have e := OK.ho_inj h4 g4 (Option.some.inj g3)
    subst e
    rw [TRL.det ts vs a1 b1 h6 g6]
theorem TRL.det : ∀ (ts : List T) (vs : List V) (as bs : List Addr), TRL K mg dl F H ts vs as → TRL K mg dl F H ts vs bs → as = bs
  | [], _, _, _, h, h' => by rw [h.2, h'.2]
  | t :: ts, vs, as, bs, h, h' => by
    obtain ⟨v, vs', a1, a2, rfl, rfl, h3, h4⟩ := h
    obtain ⟨w, ws', b1, b2, e, rfl, g3, g4⟩ := h'
    cases e
    rw [TR.det t v a1 b1 h3 g3, TRL.det ts vs' a2 b2 h4 g4]
end
end
/-- the trees among the slots, where they lie -/
structure TrOk (K : PySem.W.Frag) (mg : Str → Option Value) {wd : World} (dl : Dr wd) (H0 F H : Hp) (sg : L2.St) (G : Sls) (fp : Nat → List Addr) : Prop where
  at_ : ∀ (i : Nat) (t : T), G[i]? = some (some (.tree t)) → ∃ v, sg[i]? = some (some v) ∧ TR K mg dl F H t v (fp i) ∧ (fp i).Nodup ∧ ∀ a ∈ fp i, F a = none ∧ H0 a = none ∧ ¬ dl.has a
  dj : ∀ (i j : Nat) (t u : T), G[i]? = some (some (.tree t)) → G[j]? = some (some (.tree u)) → i ≠ j → ∀ a ∈ fp i, a ∉ fp j
  nx : ∀ (i j : Nat) (t : T) (s : Sl) (a : Addr), G[i]? = some (some (.tree t)) → G[j]? = some (some s) → s.isOwn = true → sg[j]? = some (some (.ref a)) → a ∉ fp i
def Trs (K : PySem.W.Frag) (mg : Str → Option Value) {wd : World} (dl : Dr wd) (H0 F H : Hp) (sg : L2.St) (G : Sls) : Prop := ∃ fp : Nat → List Addr, TrOk K mg dl H0 F H sg G fp
section
variable {K : PySem.W.Frag} {mg : Str → Option Value} {wd : World} {dl : Dr wd} {H0 F H F' H' : Hp} {sg sg' : L2.St} {G G' : Sls}
theorem Trs.no (h : ∀ (i : Nat) (t : T), G[i]? ≠ some (some (.tree t))) : Trs K mg dl H0 F H sg G := ⟨fun _ => [], fun i t e => absurd e (h i t), fun i _ t _ e => absurd e (h i t), fun i _ t _ _ e => absurd e (h i t)⟩
theorem Trs.keep (S : Trs K mg dl H0 F H sg G) (h1 : ∀ (j : Nat) (t : T), G'[j]? = some (some (.tree t)) → G[j]? = some (some (.tree t)) ∧ sg'[j]? = sg[j]?) (hF : Same F F')
    (hh : ∀ fp, TrOk K mg dl H0 F H sg G fp → ∀ (j : Nat) (t : T), G[j]? = some (some (.tree t)) → ∀ a ∈ fp j, (∃ o, H a = some o) → F a = none → ¬ dl.has a → H' a = H a ∧ F' a = none)
    (h3 : ∀ fp, TrOk K mg dl H0 F H sg G fp → ∀ (j : Nat) (s : Sl) (a : Addr), G'[j]? = some (some s) → s.isOwn = true → sg'[j]? = some (some (.ref a)) → ∀ (i : Nat) (t : T), G[i]? = some (some (.tree t)) → a ∉ fp i) : Trs K mg dl H0 F' H' sg' G' := by
  obtain ⟨fp, S⟩ := S
  refine ⟨fp, fun i t e => ?_, fun i j t u e1 e2 => S.dj i j t u (h1 i t e1).1 (h1 j u e2).1, fun i j t s a e1 e2 o es => h3 fp S j s a e2 o es i t (h1 i t e1).1⟩
  obtain ⟨e1, e2⟩ := h1 i t e
  obtain ⟨v, q1, q2, q3, q4⟩ := S.at_ i t e1
  have q5 := fun a ha => hh fp S i t e1 a ha (TR.some t v _ q2 a ha) (q4 a ha).1 (q4 a ha).2.2
  exact ⟨v, by rw [e2]; exact q1, TR.mono hF t v _ (fun a ha => (q5 a ha).1) q2, q3, fun a ha => ⟨(q5 a ha).2, (q4 a ha).2⟩⟩
theorem Trs.step (S : Trs K mg dl H0 F H sg G) (e : Step dl F H F' H') : Trs K mg dl H0 F' H' sg G :=
  S.keep (fun j t q => ⟨q, rfl⟩) e.fs (fun fp _ j t _ a _ ⟨o, ho⟩ hf nd => ⟨by rw [ho]; exact e.hs a o nd ho, by
    cases q : F' a with
    | none => rfl
    | some u =>
      rcases e.nw a u q with z | z
      · rw [hf] at z; cases z
      · rw [ho] at z; cases z⟩) fun fp T j s a ej o es i t ei => T.nx i j t s a ei ej o es
/-- the object of an own slot changes, or is frozen -/
theorem Trs.at {s s' : Sl} {i : Nat} {a : Addr} (S : Trs K mg dl H0 F H sg G) (ei : G[i]? = some (some s)) (o1 : s.isOwn = true) (n : ∀ t, s' ≠ .tree t) (es : sg[i]? = some (some (.ref a))) (sF : Same F F') (hH : ∀ b, b ≠ a → H' b = H b) (hF : ∀ b, b ≠ a → F' b = F b) :
    Trs K mg dl H0 F' H' sg (G.set i (some s')) := by
  have old : ∀ (j : Nat) (u : Sl), (G.set i (some s'))[j]? = some (some u) → (i = j ∧ u = s') ∨ G[j]? = some (some u) := fun j u e => by
    by_cases z : i = j
    · subst z
      rw [List.getElem?_set_self (List.getElem?_eq_some_iff.mp ei).1] at e
      cases e
      exact .inl ⟨rfl, rfl⟩
    · rw [List.getElem?_set_ne z] at e
      exact .inr e
  refine S.keep (fun j t e => ?_) sF (fun fp T j t ej b hb _ hf _ => ?_) fun fp T j u b ej o eb m t em => ?_
  · rcases old j _ e with ⟨_, z⟩ | z
    · exact absurd z.symm (n t)
    · exact ⟨z, rfl⟩
  · have ne : b ≠ a := fun z => T.nx j i t s a ej ei o1 es (by rw [← z]; exact hb)
    exact ⟨hH b ne, by rw [hF b ne]; exact hf⟩
  · rcases old j _ ej with ⟨rfl, _⟩ | z
    · exact T.nx m i t s b em ei o1 eb
    · exact T.nx m j t u b em z o eb
/-- another value in a slot -/
theorem Trs.put {s' : Sl} {i : Nat} {v : V} (S : Trs K mg dl H0 F H sg G) (n : ∀ t, s' ≠ .tree t) (h : s'.isOwn = true → ∀ a, v = .ref a → ∀ fp, TrOk K mg dl H0 F H sg G fp → ∀ (j : Nat) (t : T), G[j]? = some (some (.tree t)) → a ∉ fp j) :
    Trs K mg dl H0 F H (sg.set i (some v)) (G.set i (some s')) := by
  have old : ∀ (j : Nat) (u : Sl), (G.set i (some s'))[j]? = some (some u) → (i = j ∧ u = s') ∨ (i ≠ j ∧ G[j]? = some (some u)) := fun j u e => by
    by_cases z : i = j
    · subst z
      by_cases q : i < G.length
      · rw [List.getElem?_set_self q] at e
        cases e
        exact .inl ⟨rfl, rfl⟩
      · rw [List.getElem?_set] at e
        simp [q] at e
    · rw [List.getElem?_set_ne z] at e
      exact .inr ⟨z, e⟩
  refine S.keep (fun j t e => ?_) (fun _ _ z => z) (fun fp T j t ej b hb _ hf _ => ⟨rfl, hf⟩) fun fp T j u b ej o eb m t em => ?_
  · rcases old j _ e with ⟨_, z⟩ | ⟨z, z2⟩
    · exact absurd z.symm (n t)
    · exact ⟨z2, by rw [List.getElem?_set_ne z]⟩
  · rcases old j _ ej with ⟨rfl, rfl⟩ | ⟨z, z2⟩
    · by_cases q : i < sg.length
      · rw [List.getElem?_set_self q] at eb
        cases eb
        exact h o b rfl fp T m t em
      · rw [List.getElem?_set] at eb
        simp [q] at eb
    · rw [List.getElem?_set_ne z] at eb
      exact T.nx m j t u b em z2 o eb
end
structure Sim (K : PySem.W.Frag) (mg : Str → Option Value) {wd : World} (dl : Dr wd) (F0 H0 F H : Hp) (sg : L2.St) (G : Sls) : Prop where
  len : G.length = sg.length
  sl : ∀ (i : Nat) (s : Sl), G[i]? = some (some s) → ∃ v, sg[i]? = some (some v) ∧ SlOk K mg dl H0 F H s v
  dis : ∀ (i j : Nat) (s t : Sl), G[i]? = some (some s) → G[j]? = some (some t) → s.isOwn = true → t.isOwn = true → sg[i]? = sg[j]? → i = j
  st : Step dl F0 H0 F H
  tr : Trs K mg dl H0 F H sg G
section
variable {K : PySem.W.Frag} {mg : Str → Option Value} {wd : World} {dl : Dr wd} {F0 H0 F H F' H' : Hp} {sg : L2.St} {G : Sls}
theorem SlOk.step {s : Sl} {v : V} (e : Step dl F H F' H') (h : SlOk K mg dl H0 F H s v) : SlOk K mg dl H0 F' H' s v := by
  have fr : ∀ a, F a = none → (∃ o, H a = some o) → F' a = none := fun a h1 ⟨o, h2⟩ => by
    cases q : F' a with
    | none => rfl
    | some u =>
      rcases e.nw a u q with z | z
      · rw [h1] at z; cases z
      · rw [h2] at z; cases z
  cases s with
  | fz d => exact Rep.mono e.fs d v h
  | own ds =>
    obtain ⟨a, vs, h1, h2, h3, h4, h5, h6, h7⟩ := h
    exact ⟨a, vs, h1, e.hs a _ h5 h2, fr a h3 ⟨_, h2⟩, h4, h5, h6, RepL.mono e.fs ds vs h7⟩
  | ini c ns ds =>
    obtain ⟨a, dx, C, vs, h1, h2, h3, h4, h5, h6, h7, h8, h9, h10, h11, h12, h13⟩ := h
    exact ⟨a, dx, C, vs, h1, h2, e.hs a _ h9 h3, e.hs dx _ h10 h4, fr a h5 ⟨_, h3⟩, fr dx h6 ⟨_, h4⟩, h7, h8, h9, h10, h11, h12, RepL.mono e.fs ds vs h13⟩
  | ownX k ds =>
    obtain ⟨a, vs, h1, h2, h3, h4, h5, h6, h7, h8⟩ := h
    exact ⟨a, vs, h1, e.hs a _ h5 h2, fr a h3 ⟨_, h2⟩, h4, h5, h6, h7, RepL.mono e.fs ds vs h8⟩
  | tree t => trivial
theorem Sim.step (S : Sim K mg dl F0 H0 F H sg G) (e : Step dl F H F' H') : Sim K mg dl F0 H0 F' H' sg G :=
  ⟨S.len, fun i s h => by
    obtain ⟨v, h1, h2⟩ := S.sl i s h
    exact ⟨v, h1, h2.step e⟩, S.dis, S.st.trans e, S.tr.step e⟩
end

section
variable (mg : Str → Option Value) (K : PySem.W.Frag) {wd : World} (dl : Dr wd)
/-- an exception of the text: its class, its own dict (if it has attributes) -/
def ExRep (F H : Hp) (x : Exn) (cls : Value) (d : Option Addr) : Prop :=
  ∃ C : Addr, mg x.cls = some (.ref C) ∧ cls = .ref C ∧
    ((x.ns = [] ∧ x.xs = [] ∧ d = none) ∨ (x.ns ≠ [] ∧ ∃ (a : Addr) (vs : List V), d = some a ∧ F a = some (.xd (x.ns.zip vs)) ∧ x.ns.length = vs.length ∧ RepL K mg dl F x.xs vs))
abbrev XK' := Value → Option Addr → Hp → Prop
def Go {α : Type} (W : XK') (F H : Hp) (r : Option (Res α × DS)) (k : α → DS → Hp → Hp → Prop) : Prop := match r with
  | none => False
  | some (.ok a, s') => ∀ F' H', Step dl F H F' H' → Wd dl F' H' s' → k a s' F' H'
  | some (.err x, s') => ∀ F' H' cls d, Step dl F H F' H' → Wd dl F' H' s' → ExRep mg K dl F' H' x cls d → W cls d H'
end
section
variable {mg : Str → Option Value} {K : PySem.W.Frag} {wd : World} {dl : Dr wd} {W : XK'} {F H : Hp}
theorem Go.bnd {α β : Type} {m : M α} {k : α → M β} {s : DS} {q : β → DS → Hp → Hp → Prop} (h : Go mg K dl W F H (EK.bnd m k s) q) :
    Go mg K dl W F H (m s) fun a s1 F1 H1 => Go mg K dl W F1 H1 (k a s1) q := by
  unfold EK.bnd at h
  cases e : m s with
  | none => rw [e] at h; exact h
  | some p =>
    obtain ⟨r, s1⟩ := p
    rw [e] at h
    cases r with
    | err x => exact h
    | ok a =>
      intro F1 H1 st1 w1
      have h : Go mg K dl W F H (k a s1) q := h
      cases e2 : k a s1 with
      | none => rw [e2] at h; exact h
      | some p2 =>
        obtain ⟨r2, s2⟩ := p2
        rw [e2] at h
        cases r2 with
        | ok b => exact fun F2 H2 st2 w2 => h F2 H2 (st1.trans st2) w2
        | err x => exact fun F2 H2 cls d st2 w2 => h F2 H2 cls d (st1.trans st2) w2
theorem Go.imp {α : Type} {r : Option (Res α × DS)} {k k' : α → DS → Hp → Hp → Prop} (h : Go mg K dl W F H r k) (f : ∀ a s F' H', Step dl F H F' H' → Wd dl F' H' s → k a s F' H' → k' a s F' H') : Go mg K dl W F H r k' := by
  cases r with
  | none => exact h
  | some p =>
    obtain ⟨r, s1⟩ := p
    cases r with
    | err x => exact h
    | ok a => exact fun F1 H1 st w => f a s1 F1 H1 st w (h F1 H1 st w)
theorem Go.ret {α : Type} {a : α} {s : DS} {q : α → DS → Hp → Hp → Prop} (w : Wd dl F H s) (h : Go mg K dl W F H (EK.ret a s) q) : q a s F H := h F H Step.refl w
theorem Go.ofO {α : Type} {o : Option α} {s : DS} {q : α → DS → Hp → Hp → Prop} (h : Go mg K dl W F H (EK.ofO o s) q) : ∃ a, o = some a ∧ ∀ F' H', Step dl F H F' H' → Wd dl F' H' s → q a s F' H' := by
  cases o with
  | none => exact h.elim
  | some a => exact ⟨a, rfl, h⟩
theorem Go.noErr {α : Type} {m : M α} {s : DS} {q : α → DS → Hp → Hp → Prop} (h : Go mg K dl W F H (EK.noErr m s) q) : Go mg K dl (fun _ _ _ => False) F H (m s) q := by
  unfold EK.noErr at h
  cases e : m s with
  | none => rw [e] at h; exact h
  | some p =>
    obtain ⟨r, s1⟩ := p
    rw [e] at h
    cases r with
    | ok a => exact h
    | err x => exact h.elim
end

/-- an expression's computation from the slots -/
abbrev SE := Sls → M D
abbrev ST := Sls → M Bool
abbrev SA := Sls → M (List D)
section
variable (X : Cx) (dl : Dr X.w) (W : WX)
def tGF {α : Type} (F : Hp) (f : Sls → M α) (q : α → Hp → Hp → Prop) (sg : L2.St) (H : Hp) : Prop :=
  ∃ (F0 H0 : Hp) (G : Sls) (s : DS), Wd dl F H s ∧ Sim X.K X.mg dl F0 H0 F H sg G ∧ Go X.mg X.K dl (fun c d H' => W c d sg H') F H (f G s) fun a _ F' H' => q a F' H'
def tD (f : SE) : TE := fun sg H Q => ∃ F, tGF X dl W F f (fun d F' H' => ∀ v, Rep X.K X.mg dl F' d v → Q v H') sg H
def tDT (f : ST) : TT := fun sg H Q => ∃ F, tGF X dl W F f (fun b _ H' => Q b H') sg H
def tDA (f : SA) : TA := fun sg H Q => ∃ F, tGF X dl W F f (fun ds F' H' => ∀ vs, RepL X.K X.mg dl F' ds vs → Q vs H') sg H
abbrev DE (e : Expr) (f : SE) : Prop := PE X e (tD X dl W f)
abbrev DT (e : Expr) (f : ST) : Prop := PT X e (tDT X dl W f)
abbrev DW (e : Expr) (f : ST) : Prop := PW X e (tDT X dl W f)
abbrev DA (es : List Expr) (f : SA) : Prop := PA X es (tDA X dl W f)
end
section
variable {X : Cx} {dl : Dr X.w} {W : WX} {F H : Hp} {sg : L2.St}
theorem tGF.bnd {α β : Type} {fa : Sls → M α} {k : Sls → α → M β} {q : β → Hp → Hp → Prop} (h : tGF X dl W F (fun G => EK.bnd (fa G) (k G)) q sg H) :
    tGF X dl W F fa (fun a F1 H1 => Step dl F H F1 H1 ∧ tGF X dl W F1 (fun G => k G a) q sg H1) sg H := by
  obtain ⟨F0, H0, G, s, w, S, g⟩ := h
  exact ⟨F0, H0, G, s, w, S, g.bnd.imp fun a s1 F1 H1 st1 w1 g1 => ⟨st1, F0, H0, G, s1, w1, S.step st1, g1⟩⟩
theorem tGF.imp {α : Type} {f : Sls → M α} {q q' : α → Hp → Hp → Prop} (h : tGF X dl W F f q sg H) (i : ∀ a F' H', q a F' H' → q' a F' H') : tGF X dl W F f q' sg H := by
  obtain ⟨F0, H0, G, s, w, S, g⟩ := h
  exact ⟨F0, H0, G, s, w, S, g.imp fun a s1 F1 H1 _ _ z => i a F1 H1 z⟩
theorem tGF.rt {α : Type} {a : α} {q : α → Hp → Hp → Prop} (h : tGF X dl W F (fun _ => EK.ret a) q sg H) : q a F H := by
  obtain ⟨F0, H0, G, s, w, S, g⟩ := h
  exact g.ret w
theorem tGF.wd {α : Type} {f : Sls → M α} {q : α → Hp → Hp → Prop} (h : tGF X dl W F f q sg H) : ∃ s, Wd dl F H s := by
  obtain ⟨F0, H0, G, s, w, S, g⟩ := h
  exact ⟨s, w⟩
theorem tGF.sub {α : Type} {f : Sls → M α} {q : α → Hp → Hp → Prop} (h : tGF X dl W F f q sg H) : Same F H := by
  obtain ⟨s, w⟩ := h.wd
  exact w.sub
/-- an answer that is a function of what is known -/
theorem tGF.op {α : Type} {o : Option α} {q : α → Hp → Hp → Prop} (h : tGF X dl W F (fun _ => EK.ofO o) q sg H) :
    ∃ (a : α) (s : DS), o = some a ∧ Wd dl F H s ∧ ∀ F' H', Step dl F H F' H' → Wd dl F' H' s → q a F' H' := by
  obtain ⟨F0, H0, G, s, w, S, g⟩ := h
  obtain ⟨a, e, g⟩ := g.ofO
  exact ⟨a, s, e, w, g⟩
end
theorem PE.of {X : Cx} {e : Expr} {t t' : TE} (h : PE X e t) (w : ∀ sg H Q, t' sg H Q → t sg H Q) : PE X e t' := ⟨fun pins s sg H Q I q => h.run pins s sg H Q I (w _ _ _ q)⟩
theorem PT.of {X : Cx} {e : Expr} {t t' : TT} (h : PT X e t) (w : ∀ sg H Q, t' sg H Q → t sg H Q) : PT X e t' := ⟨fun pins s sg H Q I q => h.run pins s sg H Q I (w _ _ _ q)⟩
theorem PW.of {X : Cx} {e : Expr} {t t' : TT} (h : PW X e t) (w : ∀ sg H Q, t' sg H Q → t sg H Q) : PW X e t' := ⟨fun wh pins s sg H Q I q => h.run wh pins s sg H Q I (w _ _ _ q)⟩
theorem PA.of {X : Cx} {e : List Expr} {t t' : TA} (h : PA X e t) (w : ∀ sg H Q, t' sg H Q → t sg H Q) : PA X e t' := ⟨fun pos pins s sg H Q I q => h.run pos pins s sg H Q I (w _ _ _ q)⟩
theorem PS.of {X : Cx} {e : Stmt} {t t' : TS} (h : PS X e t) (w : ∀ D sg H, t' D sg H → t D sg H) : PS X e t' := ⟨fun pins s sg H D I q => h.run pins s sg H D I (w _ _ _ q)⟩
theorem PSs.of {X : Cx} {e : List Stmt} {t t' : TS} (h : PSs X e t) (w : ∀ D sg H, t' D sg H → t D sg H) : PSs X e t' := ⟨fun pins s sg H D I q => h.run pins s sg H D I (w _ _ _ q)⟩
end EK


namespace EK
open PySem PySem.Spec PyProof.Rows L2
section
variable {X : Cx} {dl : Dr X.w} {W : WX}

def gv (i : Nat) : SE := fun G => match G[i]? with
  | some (some (.fz d)) => ret d
  | _ => fail
theorem de_of_var {e : Expr} {i : Nat} (h : PE X e (tVar i)) : DE X dl W e (gv i) := by
  refine PE.of h fun sg H Q q => ?_
  obtain ⟨F, F0, H0, G, s, w, S, g⟩ := q
  cases e1 : G[i]? with
  | none => simp only [gv, e1] at g; exact g.elim
  | some o =>
    cases o with
    | none => simp only [gv, e1] at g; exact g.elim
    | some sl =>
      cases sl with
      | own _ => simp only [gv, e1] at g; exact g.elim
      | ini _ _ _ => simp only [gv, e1] at g; exact g.elim
      | ownX _ _ => simp only [gv, e1] at g; exact g.elim
      | tree _ => simp only [gv, e1] at g; exact g.elim
      | fz d =>
        simp only [gv, e1] at g
        obtain ⟨v, h1, h2⟩ := S.sl i _ e1
        exact ⟨v, h1, g.ret w v h2⟩
theorem de_var (i : Nat) {x : Str} {pos : Pos} (hN : X.N[i]? = some x := by rfl) (hv : Vis X.env.scope x := by first | exact Or.inl rfl | exact Or.inr (Or.inl rfl) | exact Or.inr (Or.inr rfl)) (hd : (x == ("__debug__" : Str)) = false := by decide)
    (hcd : (x == ("__classdict__" : Str)) = false := by decide) : DE X dl W (.Name x pos) (gv i) := de_of_var (pe_var hN hv hd hcd)
/-- a value that is known -/
theorem de_known {e : Expr} {v : V} {d : D} (h : PE X e (tC v)) (r : ∀ F, Rep X.K X.mg dl F d v) : DE X dl W e (fun _ => ret d) := by
  refine PE.of h fun sg H Q q => ?_
  obtain ⟨F, q⟩ := q
  exact q.rt v (r F)
theorem de_int {i j pos} : DE X dl W (.Constant (.int i) j pos) (fun _ => ret (.int i)) := de_known pe_int fun _ => rfl
theorem de_bl {b j pos} : DE X dl W (.Constant (.bool b) j pos) (fun _ => ret (.bl b)) := de_known pe_bl fun _ => rfl
theorem de_non {j pos} : DE X dl W (.Constant .none j pos) (fun _ => ret .non) := de_known pe_non fun _ => rfl
theorem de_str {x j pos} : DE X dl W (.Constant (.str x) j pos) (fun _ => ret (.str x)) := de_known pe_str fun _ => rfl
def sa0 : SA := fun _ => ret []
def saC (f : SE) (r : SA) : SA := fun G => bnd (f G) fun d => bnd (r G) fun ds => ret (d :: ds)
/-- *e: its items go in -/
def itemsTL : D → Option (List D)
  | .lst xs => some xs
  | .tup xs => some xs
  | _ => none
def saS (f : SE) (r : SA) : SA := fun G => bnd (f G) fun d => bnd (ofO (itemsTL d)) fun xs => bnd (r G) fun ds => ret (xs ++ ds)
theorem da_nil : DA X dl W [] sa0 := by
  refine PA.of pa_nil fun sg H Q q => ?_
  obtain ⟨F, q⟩ := q
  exact q.rt [] rfl
theorem da_cons {e : Expr} {es : List Expr} {f : SE} {r : SA} (he : DE X dl W e f) (hr : DA X dl W es r) (hs : starEach (e :: es) X.env = (false, eval e X.env) :: starEach es X.env := by rfl) : DA X dl W (e :: es) (saC f r) := by
  refine PA.of (pa_cons he hr hs) fun sg H Q q => ?_
  obtain ⟨F, q⟩ := q
  refine ⟨F, q.bnd.imp fun d F1 H1 ⟨st1, q1⟩ v rv => ⟨F1, q1.bnd.imp fun ds F2 H2 ⟨st2, q2⟩ vs rvs => ?_⟩⟩
  exact q2.rt (v :: vs) ⟨v, vs, rfl, Rep.mono st2.fs d v rv, rvs⟩
/-- displays -/
def gLst (r : SA) : SE := fun G => bnd (r G) fun ds => ofO (if ds.length ≤ sizeLine then some (.lst ds) else none)
def gTup (r : SA) : SE := fun G => bnd (r G) fun ds => ofO (if ds.length ≤ sizeLine then some (.tup ds) else none)
theorem de_lst {es : List Expr} {r : SA} {pos : Pos} (h : DA X dl W es r) : DE X dl W (.List es pos) (EK.gLst r) := by
  refine PE.of (pe_lst h) fun sg H Q q => ?_
  obtain ⟨F, q⟩ := q
  refine ⟨F, q.bnd.imp fun ds F1 H1 ⟨st1, q1⟩ vs rvs => ?_⟩
  obtain ⟨d, s, e, w, q2⟩ := q1.op
  split at e
  · rename_i hl
    cases e
    rw [rvs.length] at hl
    refine ⟨hl, fun p hp => q2 _ _ (Step.new w hp) (w.new hp) _ ⟨p, vs, rfl, upd_same, hl, RepL.mono (Step.new w hp).fs _ _ rvs⟩⟩
  · cases e
theorem de_tup {es : List Expr} {r : SA} {x1} {pos : Pos} (h : DA X dl W es r) : DE X dl W (.Tuple es x1 pos) (EK.gTup r) := by
  refine PE.of (pe_tup h) fun sg H Q q => ?_
  obtain ⟨F, q⟩ := q
  refine ⟨F, q.bnd.imp fun ds F1 H1 ⟨st1, q1⟩ vs rvs => ?_⟩
  obtain ⟨d, s, e, w, q2⟩ := q1.op
  split at e
  · rename_i hl
    cases e
    rw [rvs.length] at hl
    refine ⟨hl, fun p hp => q2 _ _ (Step.new w hp) (w.new hp) _ ⟨p, vs, rfl, SqT.of upd_same, hl, RepL.mono (Step.new w hp).fs _ _ rvs⟩⟩
  · cases e

section
variable (X dl)
def rD (g : D → D → Option D) : R2 := fun x y H Q => ∃ (F : Hp) (s : DS) (a b d : D), Wd dl F H s ∧ Rep X.K X.mg dl F a x ∧ Rep X.K X.mg dl F b y ∧ g a b = some d ∧ ∀ F' H' v, Step dl F H F' H' → Wd dl F' H' s → Rep X.K X.mg dl F' d v → Q v H'
def rUD (g : D → Option D) : V → Hp → VK → Prop := fun x H Q => ∃ (F : Hp) (s : DS) (a d : D), Wd dl F H s ∧ Rep X.K X.mg dl F a x ∧ g a = some d ∧ ∀ F' H' v, Step dl F H F' H' → Wd dl F' H' s → Rep X.K X.mg dl F' d v → Q v H'
def rCD (g : List D → Option D) : List V → Hp → VK → Prop := fun xs H Q => ∃ (F : Hp) (s : DS) (ds : List D) (d : D), Wd dl F H s ∧ RepL X.K X.mg dl F ds xs ∧ g ds = some d ∧ ∀ F' H' v, Step dl F H F' H' → Wd dl F' H' s → Rep X.K X.mg dl F' d v → Q v H'
end
def g2 (g : D → D → Option D) (fa fb : SE) : SE := fun G => bnd (fa G) fun a => bnd (fb G) fun b => ofO (g a b)
def g1 (g : D → Option D) (fa : SE) : SE := fun G => bnd (fa G) fun a => ofO (g a)
def gC (g : List D → Option D) (fa : SA) : SE := fun G => bnd (fa G) fun ds => ofO (g ds)
variable {a b c : Expr} {fa fb fc : SE} {pos : Pos} {g g' : D → D → Option D}
theorem tOp_of {sg : L2.St} {H : Hp} {Q : VK} (q : tD X dl W (g2 g fa fb) sg H Q) : tOp (rD X dl g) (tD X dl W fa) (tD X dl W fb) sg H Q := by
  obtain ⟨F, q⟩ := q
  refine ⟨F, q.bnd.imp fun x F1 H1 ⟨st1, q1⟩ v rv => ⟨F1, q1.bnd.imp fun y F2 H2 ⟨st2, q2⟩ u ru => ?_⟩⟩
  obtain ⟨d, s, e, w, q3⟩ := q2.op
  exact ⟨F2, s, x, y, d, w, Rep.mono st2.fs _ _ rv, ru, e, fun F' H' v st w r => q3 F' H' st w v r⟩
theorem de_bin {op : Operator} (ho : OpR X (binaryOp op) (rD X dl g)) (ha : DE X dl W a fa) (hb : DE X dl W b fb) : DE X dl W (.BinOp a op b pos) (g2 g fa fb) := PE.of (pe_op ho ha hb) fun _ _ _ q => tOp_of q
theorem de_cmp {op : CmpOp} (ho : OpR X (compareOp op) (rD X dl g)) (ha : DE X dl W a fa) (hb : DE X dl W b fb) (hm : behindInMarks op b = false) : DE X dl W (.Compare a [op] [b] pos) (g2 g fa fb) := PE.of (pe_cmpR ho ha hb hm) fun _ _ _ q => tOp_of q
theorem de_un {op : UnaryOp} {g : D → Option D} (ho : UnR X (unaryOp op) (rUD X dl g)) (ha : DE X dl W a fa) : DE X dl W (.UnaryOp op a pos) (g1 g fa) := by
  refine PE.of (pe_un ho ha) fun sg H Q q => ?_
  obtain ⟨F, q⟩ := q
  refine ⟨F, q.bnd.imp fun x F1 H1 ⟨st1, q1⟩ v rv => ?_⟩
  obtain ⟨d, s, e, w, q3⟩ := q1.op
  exact ⟨F1, s, x, d, w, rv, e, fun F' H' v st w r => q3 F' H' st w v r⟩

def asB : D → Option Bool
  | .bl b => some b
  | _ => none
def tB' (f : SE) : ST := fun G => bnd (f G) fun d => ofO (asB d)
theorem asB_some {d : D} {b : Bool} (e : asB d = some b) : d = .bl b := by
  cases d <;> simp [asB] at e
  subst e; rfl
theorem tTest_of {f : SE} {sg : L2.St} {H : Hp} {Q : Bool → Hp → Prop} (q : tDT X dl W (tB' f) sg H Q) : tD X dl W f sg H fun x H' => ∃ k, x = .bl k ∧ Q k H' := by
  obtain ⟨F, q⟩ := q
  refine ⟨F, q.bnd.imp fun d F1 H1 ⟨st1, q1⟩ v rv => ?_⟩
  obtain ⟨k, s, e, w, q3⟩ := q1.op
  cases asB_some e
  exact ⟨k, rv, q3 F1 H1 Step.refl w⟩
theorem dt_val {e : Expr} {f : SE} (h : DE X dl W e f) (he : ∀ whole, isTrue e X.env whole = (do let v ← whole; standAt e.pos; holding [v] (truthy v)) := by intro _; rfl) : DT X dl W e (tB' f) := PT.of (pt_val h he) fun _ _ _ q => tTest_of q
theorem dt_cmp {op : CmpOp} (ho : OpR X (compareOp op) (rD X dl g)) (ha : DE X dl W a fa) (hb : DE X dl W b fb) (hm : behindInMarks op b = false) : DT X dl W (.Compare a [op] [b] pos) (tB' (g2 g fa fb)) := by
  refine PT.of (pt_cmpR ho ha hb hm) fun sg H Q q => ?_
  have q' := tTest_of q
  exact tOp_of q'
/-- a op b op' c -/
def g3 (g g' : D → D → Option D) (fa fb fc : SE) : SE := fun G => bnd (fa G) fun x => bnd (fb G) fun y => bnd (ofO (g x y)) fun r => bnd (ofO (asB r)) fun k => if k then bnd (fc G) fun z => ofO (g' y z) else ret (.bl false)
variable {ua ub : ST} {rest : List Expr}
def bAnd (u v : ST) : ST := fun G => bnd (u G) fun c => if c then v G else ret false
def bOr (u v : ST) : ST := fun G => bnd (u G) fun c => if c then ret true else v G
def bNot (u : ST) : ST := fun G => bnd (u G) fun c => ret (!c)
theorem dw_and1 (ha : DT X dl W a ua) : DW X dl W (.BoolOp .And [a] pos) ua := pw_and1 ha
theorem dw_or1 (ha : DT X dl W a ua) : DW X dl W (.BoolOp .Or [a] pos) ua := pw_or1 ha
theorem dw_and (ha : DT X dl W a ua) (hb : DW X dl W (.BoolOp .And (b :: rest) pos) ub) : DW X dl W (.BoolOp .And (a :: b :: rest) pos) (bAnd ua ub) := by
  refine PW.of (pw_and ha hb) fun sg H Q q => ?_
  obtain ⟨F, q⟩ := q
  refine ⟨F, q.bnd.imp fun k F1 H1 ⟨st1, q1⟩ => ?_⟩
  cases k with
  | true => exact ⟨F1, q1⟩
  | false => exact q1.rt
theorem dw_or (ha : DT X dl W a ua) (hb : DW X dl W (.BoolOp .Or (b :: rest) pos) ub) : DW X dl W (.BoolOp .Or (a :: b :: rest) pos) (bOr ua ub) := by
  refine PW.of (pw_or ha hb) fun sg H Q q => ?_
  obtain ⟨F, q⟩ := q
  refine ⟨F, q.bnd.imp fun k F1 H1 ⟨st1, q1⟩ => ?_⟩
  cases k with
  | true => exact q1.rt
  | false => exact ⟨F1, q1⟩
theorem dt_w {e : Expr} {u : ST} (h : DW X dl W e u) : DT X dl W e u := h.pt
theorem dt_not (ha : DT X dl W a ua) : DT X dl W (.UnaryOp .Not a pos) (bNot ua) := by
  refine PT.of (pt_not ha) fun sg H Q q => ?_
  obtain ⟨F, q⟩ := q
  exact ⟨F, q.bnd.imp fun k F1 H1 ⟨st1, q1⟩ => q1.rt⟩
/-- .. as values -/
def vAnd (f h : SE) : SE := fun G => bnd (f G) fun d => bnd (ofO (asB d)) fun k => if k then h G else ret (.bl false)
def vOr (f h : SE) : SE := fun G => bnd (f G) fun d => bnd (ofO (asB d)) fun k => if k then ret (.bl true) else h G
def vNot (f : SE) : SE := fun G => bnd (f G) fun d => bnd (ofO (asB d)) fun k => ret (.bl (!k))
def vIf (u : ST) (f h : SE) : SE := fun G => bnd (u G) fun k => if k then f G else h G
theorem de_ifExp (hc : DT X dl W c ua) (ha : DE X dl W a fa) (hb : DE X dl W b fb) : DE X dl W (.IfExp c a b pos) (vIf ua fa fb) := by
  refine PE.of (pe_ifExp hc ha hb) fun sg H Q q => ?_
  obtain ⟨F, q⟩ := q
  refine ⟨F, q.bnd.imp fun k F1 H1 ⟨st1, q1⟩ => ?_⟩
  cases k with
  | true => rw [if_pos rfl]; exact ⟨F1, q1⟩
  | false => rw [if_neg Bool.false_ne_true]; exact ⟨F1, q1⟩

variable {x : Str} {p : Pos} {id T : String} {gc : List D → Option D} {es : List Expr} {ra : SA} {e : Expr}
theorem tCB_of {sg : L2.St} {H : Hp} {Q : VK} (q : tD X dl W (gC gc ra) sg H Q) : tCB (rCD X dl gc) (tDA X dl W ra) sg H Q := by
  obtain ⟨F, q⟩ := q
  refine ⟨F, q.bnd.imp fun ds F1 H1 ⟨st1, q1⟩ vs rvs => ?_⟩
  obtain ⟨d, s, e, w, q3⟩ := q1.op
  exact ⟨F1, s, ds, d, w, rvs, e, fun F' H' v st w r => q3 F' H' st w v r⟩
theorem de_callB (hc : CallR X (.builtin id) (rCD X dl gc)) (hg : Gl X x) (hm : X.mg x = none) (hv : bootBuiltins x = some (.builtin id)) (ha : DA X dl W (e :: es) ra) (hn : x ≠ "__name__" := by decide) (hdb : (x == ("__debug__" : Str)) = false := by decide)
    (he : starEach (e :: es) X.env = (false, eval e X.env) :: starEach es X.env := by rfl) (hpl : (backTo pos (starEach es X.env)).any (·.1) = false := by rfl) : DE X dl W (.Call (.Name x p) (e :: es) [] pos) (gC gc ra) :=
  PE.of (pe_callB hc hg hm hv ha hn hdb he hpl) fun _ _ _ q => tCB_of q
theorem de_callTy (hc : CallR X (.type T) (rCD X dl gc)) (hg : Gl X x) (hm : X.mg x = none) (hv : bootBuiltins x = some (.type T)) (ha : DA X dl W (e :: es) ra) (hn : x ≠ "__name__" := by decide) (hdb : (x == ("__debug__" : Str)) = false := by decide)
    (he : starEach (e :: es) X.env = (false, eval e X.env) :: starEach es X.env := by rfl) (hpl : (backTo pos (starEach es X.env)).any (·.1) = false := by rfl) : DE X dl W (.Call (.Name x p) (e :: es) [] pos) (gC gc ra) :=
  PE.of (pe_callTy hc hg hm hv ha hn hdb he hpl) fun _ _ _ q => tCB_of q
theorem de_ix (hr : IxR X (rD X dl g)) (ha : DE X dl W a fa) (hb : DE X dl W b fb) (hs : PlainIx b) : DE X dl W (.Subscript a b pos) (g2 g fa fb) := PE.of (pe_ix hr ha hb hs) fun _ _ _ q => tOp_of q
end
end EK


namespace EK
open PySem PySem.Spec PyProof.Rows L2

section
variable {mg : Str → Option Value} {K : PySem.W.Frag} {wd : World} {dl : Dr wd} {W : XK'} {F H F1 H1 : Hp}
theorem Go.at {α β : Type} {m : M α} {k : α → M β} {s : DS} {q : β → DS → Hp → Hp → Prop} (st : Step dl F H F1 H1) (h : Go mg K dl W F H (EK.bnd m k s) q) :
    Go mg K dl W F1 H1 (m s) fun a s' _ _ => Go mg K dl W F H (k a s') q := by
  unfold EK.bnd at h
  cases e : m s with
  | none => rw [e] at h; exact h
  | some p =>
    obtain ⟨r, s1⟩ := p
    rw [e] at h
    cases r with
    | err x => exact fun F' H' cls d st' w' => h F' H' cls d (st.trans st') w'
    | ok a => exact fun F' H' st' w' => h
end

section
variable (X : Cx) (dl : Dr X.w) (W : WX)
/-- a fresh list at a, not among what never changes -/
def NewL (H : Hp) (ds : List D) (F' H' : Hp) (a : Addr) : Prop := H a = none ∧ F' a = none ∧ ∃ vs, H' a = some (.lst vs) ∧ vs.length ≤ sizeLine ∧ RepL X.K X.mg dl F' ds vs
def tDO (f : SA) : TE := fun sg H Q => ∃ F, tGF X dl W F f (fun ds F' H' => ∀ a, NewL X dl H ds F' H' a → Q (.ref a) H') sg H
abbrev DEO (e : Expr) (f : SA) : Prop := PE X e (tDO X dl W f)
end
section
variable {X : Cx} {dl : Dr X.w} {W : WX}
/-- freezing -/
theorem Same.updN {F : Hp} {a : Addr} {o : HO} (n : F a = none) : Same F (upd F a o) := fun b u e => by rw [upd_ne (ne_of_none e n)]; exact e
theorem Wd.freeze {F H : Hp} {s : DS} {a : Addr} {o : HO} (w : Wd dl F H s) (h : H a = some o) (n : F a = none) (nd : ¬ dl.has a) : Wd dl (upd F a o) H s := by
  refine ⟨fun b u e => ?_, fun b hb => ?_, w.dr, w.tb.mono (Same.updN n) (fun _ _ _ e => e) fun _ _ e => .inl e⟩
  · by_cases z : b = a
    · subst z; rw [upd_same] at e; rw [h]; exact e
    · rw [upd_ne z] at e; exact w.sub b u e
  · rw [upd_ne (fun z => nd (by rw [← z]; exact hb))]; exact w.off b hb
def gLO (f : SA) : SE := fun G => bnd (f G) fun ds => ret (.lst ds)
theorem ownR {f : SA} {sg : L2.St} {H : Hp} {Q : VK} (q : tD X dl W (gLO f) sg H Q) : tDO X dl W f sg H Q := by
  obtain ⟨F, q⟩ := q
  obtain ⟨F0, H0, G, s, w, S, g⟩ := q
  refine ⟨F, F0, H0, G, s, w, S, ?_⟩
  refine Go.imp (Go.at Step.refl g) fun ds s1 F1 H1 st1 w1 g1 a na => ?_
  obtain ⟨n1, n2, vs, h1, h2, h3⟩ := na
  have nd : ¬ dl.has a := w.na n1
  exact g1 (upd F1 a (.lst vs)) H1 ⟨fun b u e => Same.updN n2 b u (st1.fs b u e), st1.hs, fun b u e => by
      by_cases z : b = a
      · subst z; exact .inr n1
      · rw [upd_ne z] at e; exact st1.nw b u e, st1.al⟩ (w1.freeze h1 n2 nd) _ ⟨a, vs, rfl, upd_same, h2, RepL.mono (Same.updN n2) _ _ h3⟩
theorem de_own {e : Expr} {f : SA} (h : DEO X dl W e f) : DE X dl W e (gLO f) := PE.of h fun _ _ _ q => ownR q
end
section
variable (X : Cx) (dl : Dr X.w)
abbrev SG := Sls → D → Option Sls
def gD (is : List Nat) (f : SG) : TG := fun v sg H Q => ∃ (F0 H0 F : Hp) (G : Sls) (s : DS) (d : D) (G' : Sls), Wd dl F H s ∧ Sim X.K X.mg dl F0 H0 F H sg G ∧ Rep X.K X.mg dl F d v ∧ f G d = some G' ∧
  ∀ sg', (∀ vs : List Nat, (∀ i ∈ is, i ∈ vs) → wipe sg' vs = wipe sg vs) → Sim X.K X.mg dl F0 H0 F H sg' G' → Q sg' H
abbrev DG (tg : Expr) (is : List Nat) (f : SG) : Prop := PG X tg (gD X dl is f)
end
theorem PG.of {X : Cx} {e : Expr} {t t' : TG} (h : PG X e t) (w : ∀ v sg H Q, t' v sg H Q → t v sg H Q) : PG X e t' := ⟨fun pins s sg H v u Q I r q => h.run pins s sg H v u Q I r (w _ _ _ _ q)⟩
theorem PI.of {X : Cx} {tg e : Expr} {t t' : TI} (h : PI X tg e t) (w : ∀ sg H Q, t' sg H Q → t sg H Q) : PI X tg e t' := ⟨fun pins s sg H R I q => h.run pins s sg H R I (w _ _ _ q)⟩
section
variable {K : PySem.W.Frag} {mg : Str → Option Value} {wd : World} {dl : Dr wd} {F0 H0 F H : Hp} {sg : L2.St} {G : Sls}
/-- a value that never changes, put into a slot -/
theorem Sim.put {i : Nat} {d : D} {v : V} (S : Sim K mg dl F0 H0 F H sg G) (r : Rep K mg dl F d v) : Sim K mg dl F0 H0 F H (sg.set i (some v)) (G.set i (some (.fz d))) := by
  refine ⟨by rw [List.length_set, List.length_set]; exact S.len, fun j s e => ?_, fun j k s t e1 e2 o1 o2 e3 => ?_, S.st, S.tr.put (fun _ z => nomatch z) (fun z => nomatch z)⟩
  · by_cases z : i = j
    · subst z
      have hl : i < G.length := by
        rw [List.getElem?_set] at e
        simp only [if_pos rfl] at e
        by_cases q : i < G.length
        · exact q
        · rw [if_neg q] at e; cases e
      rw [List.getElem?_set_self hl] at e
      cases e
      exact ⟨v, List.getElem?_set_self (by rw [← S.len]; exact hl), r⟩
    · rw [List.getElem?_set_ne z] at e
      rw [List.getElem?_set_ne z]
      exact S.sl j s e
  · have nz : ∀ m (u : Sl), (G.set i (some (.fz d)))[m]? = some (some u) → u.isOwn = true → i ≠ m := fun m u e o z => by
      subst z
      by_cases q : i < G.length
      · rw [List.getElem?_set_self q] at e; cases e; cases o
      · rw [List.getElem?_set] at e
        simp [q] at e
    have z1 := nz j s e1 o1
    have z2 := nz k t e2 o2
    rw [List.getElem?_set_ne z1] at e1 e3
    rw [List.getElem?_set_ne z2] at e2 e3
    exact S.dis j k s t e1 e2 o1 o2 e3
theorem wipe_set : ∀ (vs : List Nat) (sg : L2.St) (i : Nat) (x : Option V), i ∈ vs → wipe (sg.set i x) vs = wipe sg vs
  | [], _, _, _, h => by simp at h
  | v :: vs, sg, i, x, h => by
    unfold wipe
    by_cases q : i ∈ vs
    · rw [wipe_set vs sg i x q]
    · have e : i = v := by
        rcases List.mem_cons.mp h with z | z
        · exact z
        · exact absurd z q
      subst e
      apply List.ext_getElem?
      intro j
      by_cases hj : i = j
      · subst hj
        simp only [List.getElem?_set, wipe_length, List.length_set, if_true]
      · rw [List.getElem?_set_ne hj, List.getElem?_set_ne hj]
        have gen : ∀ us : List Nat, (wipe (sg.set i x) us)[j]? = (wipe sg us)[j]? := by
          intro us
          induction us with
          | nil => exact List.getElem?_set_ne hj
          | cons u us ih =>
            unfold wipe
            by_cases hu : u = j
            · subst hu
              simp only [List.getElem?_set, wipe_length, List.length_set, if_true]
            · rw [List.getElem?_set_ne hu, List.getElem?_set_ne hu]
              exact ih
        exact gen vs
end
section
variable {X : Cx} {dl : Dr X.w} {W : WX} {pos : Pos}
/-- a name -/
def sgN (i : Nat) : SG := fun G d => some (G.set i (some (.fz d)))
theorem dg_name (i : Nat) {x : Str} (hN : X.N.Nodup) (hi : X.N[i]? = some x := by rfl) (hx : Loc X.env.scope x := by first | exact Or.inl rfl | exact Or.inr rfl) (hf : X.fn x = true ∨ X.env.scope.names.lookup x = some .local := by first | exact .inl rfl | exact .inr rfl | assumption) : DG X dl (.Name x pos) [i] (sgN i) := by
  refine PG.of (pg_name hN hi hx hf) fun v sg H Q q => ?_
  obtain ⟨F0, H0, F, G, s, d, G', w, S, r, e, k⟩ := q
  cases e
  exact k _ (fun vs h => wipe_set vs sg i _ (h i List.mem_cons_self)) (S.put r)
/-- several targets -/
def sgNil : Sls → List D → Option Sls := fun G ds => match ds with | [] => some G | _ => none
def sgCons (f : SG) (r : Sls → List D → Option Sls) : Sls → List D → Option Sls := fun G ds => match ds with
  | [] => none
  | d :: ds => (f G d).bind fun G' => r G' ds
def itemsT : D → Option (List D)
  | .tup xs => some xs
  | _ => none
def sgT (r : Sls → List D → Option Sls) : SG := fun G d => (itemsT d).bind fun ds => r G ds
section
variable (X dl)
def gDs (is : List Nat) (f : Sls → List D → Option Sls) : TGs := fun vs sg H Q => ∃ (F0 H0 F : Hp) (G : Sls) (s : DS) (ds : List D) (G' : Sls), Wd dl F H s ∧ Sim X.K X.mg dl F0 H0 F H sg G ∧ RepL X.K X.mg dl F ds vs ∧ f G ds = some G' ∧
  ∀ sg', (∀ vs : List Nat, (∀ i ∈ is, i ∈ vs) → wipe sg' vs = wipe sg vs) → Sim X.K X.mg dl F0 H0 F H sg' G' → Q sg' H
end
theorem PGs.of {es : List Expr} {t t' : TGs} (h : PGs X es t) (w : ∀ v sg H Q, t' v sg H Q → t v sg H Q) : PGs X es t' := ⟨fun pins s sg H v u Q I r q => h.run pins s sg H v u Q I r (w _ _ _ _ q)⟩
theorem dgs_nil : PGs X [] (gDs X dl [] sgNil) := by
  refine PGs.of pgs_nil fun vs sg H Q q => ?_
  obtain ⟨F0, H0, F, G, s, ds, G', w, S, r, e, k⟩ := q
  cases ds with
  | cons _ _ => cases e
  | nil => cases e; exact ⟨r, k sg (fun _ _ => rfl) S⟩
theorem dgs_cons {e : Expr} {es : List Expr} {is js : List Nat} {f : SG} {r : Sls → List D → Option Sls} (h1 : DG X dl e is f) (h2 : PGs X es (gDs X dl js r))
    (hs : (assignEach (e :: es) X.env).map (·.2) = assign e X.env :: (assignEach es X.env).map (·.2) := by rfl) : PGs X (e :: es) (gDs X dl (is ++ js) (sgCons f r)) := by
  refine PGs.of (pgs_cons h1 h2 hs) fun vs sg H Q q => ?_
  obtain ⟨F0, H0, F, G, s, ds, G', w, S, rp, e, k⟩ := q
  cases ds with
  | nil => cases e
  | cons d ds =>
    obtain ⟨v, vs', e1, rd, rds⟩ := rp
    subst e1
    unfold sgCons at e
    cases e2 : f G d with
    | none => simp [e2] at e
    | some G1 =>
      simp only [e2, Option.bind_some] at e
      refine ⟨v, vs', rfl, F0, H0, F, G, s, d, G1, w, S, rd, e2, fun sg1 hw1 S1 => ?_⟩
      refine ⟨F0, H0, F, G1, s, ds, G', w, S1, rds, e, fun sg2 hw2 S2 => k sg2 (fun us hu => ?_) S2⟩
      rw [hw2 us (fun i hi => hu i (List.mem_append_right _ hi)), hw1 us (fun i hi => hu i (List.mem_append_left _ hi))]
theorem dg_tup {es : List Expr} {kk : Nat} {is : List Nat} {r : Sls → List D → Option Sls} {n : Nat} (hc : X.calm = true) (hlen : ∀ G ds G', r G ds = some G' → ds.length = n) (h : PGs X es (gDs X dl is r))
    (hn : (assignEach es X.env).length = n := by rfl) (hst : (assignEach es X.env).findIdx? (·.1) = none := by rfl) : DG X dl (.Tuple es kk pos) is (sgT r) := by
  refine PG.of (pg_tup (n := n) hc h hn hst) fun v sg H Q q => ?_
  obtain ⟨F0, H0, F, G, s, d, G', w, S, rp, e, k⟩ := q
  unfold sgT at e
  cases d with
  | tup ds =>
    obtain ⟨a, vs, h1, h2, h3, h4⟩ := rp
    simp only [itemsT, Option.bind_some] at e
    exact ⟨a, vs, h1, Same.seqT w.sub h2, by rw [← h4.length]; exact hlen _ _ _ e, F0, H0, F, G, s, ds, G', w, S, h4, e, k⟩
  | _ => simp [itemsT] at e

section
variable (X dl W)
def Keep {wd : World} (dl : Dr wd) (H H1 : Hp) : Prop := ∀ b o, ¬ dl.has b → H b = some o → H1 b = some o
def DY (F : Hp) (ds : List D) : Nat → Hp → V → Hp → Prop := fun i H1 x H2 => ∀ F1 s, Same F F1 → Wd dl F1 H1 s → ∃ F2 d, Step dl F1 H1 F2 H2 ∧ Wd dl F2 H2 s ∧ ds[i]? = some d ∧ Rep X.K X.mg dl F2 d x
/-- walked while what never changes stands -/
def tIs (f : SA) : TI := fun sg H R => ∃ F, tGF X dl W F f (fun ds F' H' => ∀ J, ds.length ≤ sizeLine → Walk J ds.length (fun H1 => Same F' H1) (DY X dl F' ds) → R J H') sg H
/-- walked while all stands as it is -/
def tIm (f : SA) : TI := fun sg H R => ∃ F, tGF X dl W F f (fun ds F' H' => ∀ J, ds.length ≤ sizeLine → Walk J ds.length (fun H1 => Keep dl H' H1) (DY X dl F' ds) → R J H') sg H
abbrev DIs (tg e : Expr) (f : SA) : Prop := PI X tg e (tIs X dl W f)
abbrev DIm (tg e : Expr) (f : SA) : Prop := PI X tg e (tIm X dl W f)
end
theorem dim_of {tg e : Expr} {f : SA} (h : DIs X dl W tg e f) : DIm X dl W tg e f := by
  refine PI.of h fun sg H R q => ?_
  obtain ⟨F, F0, H0, G, s, w, S, g⟩ := q
  refine ⟨F, F0, H0, G, s, w, S, g.imp fun ds s1 F1 H1 st1 w1 k J hz wk => k J hz ?_⟩
  exact wk.mono (fun H2 hk b o e => hk b o (fun z => by rw [w1.off b z] at e; cases e) (w1.sub b o e)) fun i H2 x H3 _ _ y => y
theorem dy_at {F : Hp} {ds : List D} {vs : List V} (r : RepL X.K X.mg dl F ds vs) : ∀ i H1 x H2, YAt vs i H1 x H2 → DY X dl F ds i H1 x H2 := fun i H1 x H2 y F1 s sm w => by
  obtain ⟨e1, e2⟩ := y
  subst e1
  obtain ⟨d, h1, h2⟩ := r.get' e2
  exact ⟨F1, d, Step.refl, w, h1, Rep.mono sm d x h2⟩
/-- a thing that is a list, a tuple or a text -/
def iAny (K : PySem.W.Frag) (tl : TE) : TI := fun sg H R => tl sg H fun x H1 => (∃ a, x = .ref a ∧ (∃ xs, SqL K H1 a xs) ∧ R (Itl K a) H1) ∨ (∃ a, x = .ref a ∧ (∃ xs, SqT K H1 a xs) ∧ R (Itt K a) H1) ∨ ∃ z, x = .str z ∧ R (Its z) H1
theorem pi_any {tg l : Expr} {tl : TE} (hl : PE X l tl) : PI X tg l (iAny X.K tl) := by
  refine ⟨fun pins s sg H R I h => ?_⟩
  refine thn (hl.run pins s sg H _ I h) fun v s1 ⟨x, H1, I1, r1, q1⟩ => ?_
  rcases q1 with ⟨a, e, ⟨xs, hq⟩, q⟩ | ⟨a, e, ⟨xs, hq⟩, q⟩ | ⟨z, e, q⟩
  · subst e
    cases r1
    obtain ⟨its, rv, p, hz⟩ := I1.list hq
    refine wpAny_pyIter_list p.isList ?_
    refine ⟨s1.heap.objs.size, [s1.heap.objs.size], _, _, H1, rfl, I1.kept (t' := s1.toks) fun b o e => Heap.get?_push_of_some _ e, turn_list a _, ⟨_, Heap.get?_push_size _ rfl, rfl, rfl⟩, fun b hb => ?_, q⟩
    have e : b = s1.heap.objs.size := by simpa using hb
    subst e
    exact I1.fpOk (Nat.le_refl _) (I1.hok.fresh (Nat.le_refl _))
  · subst e
    cases r1
    obtain ⟨its, rv, p, hz⟩ := I1.tuple hq
    refine wpAny_pyIter_tuple (show s1.heap.IsTuple a its.toArray from p) ?_
    refine ⟨s1.heap.objs.size, [s1.heap.objs.size], _, _, H1, rfl, I1.kept (t' := s1.toks) fun b o e => Heap.get?_push_of_some _ e, turn_tuple a _, ⟨_, Heap.get?_push_size _ rfl, rfl, rfl⟩, fun b hb => ?_, q⟩
    have e : b = s1.heap.objs.size := by simpa using hb
    subst e
    exact I1.fpOk (Nat.le_refl _) (I1.hok.fresh (Nat.le_refl _))
  · subst e
    obtain ⟨t, rfl⟩ := r1
    cases ha : z.cps.all (· < 128)
    · exact wpAny_pyIter_wide ha (pi_one (tk := s1.toks) I1 _ (turn_str _ z t "str_iterator" (.inr rfl)) ⟨_, Heap.get?_push_size _ rfl, rfl, rfl⟩ q)
    · exact wpAny_pyIter_ascii ha (pi_one (tk := s1.toks) I1 _ (turn_str _ z t "str_ascii_iterator" (.inl rfl)) ⟨_, Heap.get?_push_size _ rfl, rfl, rfl⟩ q)
def chars (x : Str) : List D := x.cps.toList.map fun c => .str ⟨#[c]⟩
def itemsOf : D → Option (List D)
  | .lst xs => some xs
  | .tup xs => some xs
  | .str x => if x.cps.size ≤ 1000000 then some (chars x) else none
  | .scr xs => some (xs.map D.int)
  | _ => none
def gIt (f : SE) : SA := fun G => bnd (f G) fun d => ofO (itemsOf d)
theorem repL_ints {K : PySem.W.Frag} {mg : Str → Option Value} {F : Hp} : ∀ xs : List Int, RepL K mg dl F (xs.map D.int) (xs.map V.int)
  | [] => rfl
  | x :: xs => ⟨_, _, rfl, rfl, repL_ints xs⟩
theorem di_seq {tg e : Expr} {f : SE} (h : DE X dl W e f) : DIs X dl W tg e (gIt f) := by
  refine PI.of (pi_any h) fun sg H R q => ?_
  obtain ⟨F, q⟩ := q
  refine ⟨F, q.bnd.imp fun d F1 H1 ⟨st1, q1⟩ v rv => ?_⟩
  obtain ⟨ds, s, e1, w, q2⟩ := q1.op
  have q3 := q2 F1 H1 Step.refl w
  cases d with
  | lst ys =>
    cases e1
    obtain ⟨a, vs, h1, h2, h3, h4⟩ := rv
    refine .inl ⟨a, h1, ⟨vs, SqL.of (w.sub _ _ h2)⟩, q3 _ (by rw [h4.length]; exact h3) ?_⟩
    rw [h4.length]
    exact walk_list.mono (fun H2 sm => SqL.of (sm _ _ h2)) fun i H2 x H3 _ _ y => dy_at h4 i H2 x H3 y
  | tup ys =>
    cases e1
    obtain ⟨a, vs, h1, h2, h3, h4⟩ := rv
    refine .inr (.inl ⟨a, h1, ⟨vs, Same.seqT w.sub h2⟩, q3 _ (by rw [h4.length]; exact h3) ?_⟩)
    rw [h4.length]
    exact walk_tup.mono (fun H2 sm => Same.seqT sm h2) fun i H2 x H3 _ _ y => dy_at h4 i H2 x H3 y
  | scr ys =>
    cases e1
    obtain ⟨a, h1, h2, h3⟩ := rv
    refine .inl ⟨a, h1, ⟨_, L2.Same.seq w.sub h2⟩, q3 _ (by rw [List.length_map, sizeLine_eq]; omega) ?_⟩
    have hr : RepL X.K X.mg dl F1 (ys.map D.int) (ys.map V.int) := repL_ints ys
    rw [hr.length]
    exact walk_list.mono (fun H2 sm => L2.Same.seq sm h2) fun i H2 x H3 _ _ y => dy_at hr i H2 x H3 y
  | str z =>
    have e1 : (if z.cps.size ≤ 1000000 then some (chars z) else none) = some ds := e1
    by_cases hz : z.cps.size ≤ 1000000
    case neg => rw [if_neg hz] at e1; cases e1
    rw [if_pos hz] at e1
    cases e1
    have rv : v = .str z := rv
    have hl : (chars z).length = z.cps.size := by simp [chars]
    refine .inr (.inr ⟨z, rv, q3 _ (by rw [hl, sizeLine_eq]; omega) ?_⟩)
    rw [hl]
    refine walk_str.mono (fun _ _ => trivial) fun i H2 x H3 _ _ y F2 s2 sm w2 => ?_
    obtain ⟨y1, c, y2, y3⟩ := y
    subst y1
    refine ⟨F2, .str ⟨#[c]⟩, Step.refl, w2, ?_, y3⟩
    simp [chars, y2]
  | non => cases e1
  | bl _ => cases e1
  | int _ => cases e1
  | obj _ _ _ => cases e1
  | drw => cases e1
  | dct _ _ => cases e1
  | dcT _ _ => cases e1
  | dcN _ _ => cases e1
  | exm _ _ => cases e1
  | ptp _ => cases e1
  | exc _ _ _ => cases e1
/-- an own list, while nothing changes -/
def gItO (i : Nat) : SA := fun G => match G[i]? with
  | some (some (.own ds)) => ret ds
  | _ => fail
/-- range(n), range(a, b) -/
def upFrom (lo : Int) (n : Nat) : List D := (List.range n).map fun i => .int (lo + (i : Nat))
theorem upFrom_length (lo : Int) (n : Nat) : (upFrom lo n).length = n := by simp [upFrom]
def rng1 : List D → Option (List D)
  | [.int n] => if -1000000 ≤ n ∧ n < 1000000 then some (upFrom 0 n.toNat) else none
  | _ => none
def rng2 : List D → Option (List D)
  | [.int a, .int b] => if -1000000 ≤ a ∧ a < 1000000 ∧ -1000000 ≤ b ∧ b < 1000000 then some (upFrom a (b - a).toNat) else none
  | _ => none
theorem rng1_some {ds xs : List D} (h : rng1 ds = some xs) : ∃ n : Int, ds = [.int n] ∧ -1000000 ≤ n ∧ n < 1000000 ∧ xs = upFrom 0 n.toNat := by
  unfold rng1 at h
  split at h
  · split at h
    · rename_i hb
      cases h
      exact ⟨_, rfl, hb.1, hb.2, rfl⟩
    · cases h
  · cases h
def gItC (k : List D → Option (List D)) (r : SA) : SA := fun G => bnd (r G) fun ds => ofO (k ds)
theorem walk_up {F : Hp} (lo : Int) (n : Nat) : Walk (Itr lo n) (upFrom lo n).length (fun H1 => Same F H1) (DY X dl F (upFrom lo n)) := by
  rw [upFrom_length]
  refine walk_range.mono (fun _ _ => trivial) fun i H2 x H3 hi _ y F2 s2 sm w2 => ?_
  obtain ⟨y1, y2⟩ := y
  subst y1
  refine ⟨F2, .int (lo + i), Step.refl, w2, ?_, y2⟩
  simp [upFrom, hi]
end
end EK


namespace EK
open PySem PySem.Spec PyProof.Rows L2
section
variable {X : Cx} {dl : Dr X.w} {W : WX} {pos p tpos : Pos}
theorem di_range1 {tg a : Expr} {r : SA} (hg : Gl X "range") (hm : X.mg "range" = none) (ha : DA X dl W [a] r) (hs : starEach [a] X.env = [(false, eval a X.env)] := by rfl) : DIs X dl W tg (.Call (.Name "range" p) [a] [] pos) (gItC rng1 r) := by
  refine PI.of (pi_range1 hg hm ha hs) fun sg H R q => ?_
  obtain ⟨F, q⟩ := q
  refine ⟨F, q.bnd.imp fun ds F1 H1 ⟨st1, q1⟩ vs rvs => ?_⟩
  obtain ⟨xs, s, e1, w, q2⟩ := q1.op
  obtain ⟨n, rfl, hb1, hb2, rfl⟩ := rng1_some e1
  obtain ⟨v, vs', rfl, h1, h2⟩ := rvs
  have h1 : v = .int n := h1
  have h2 : vs' = [] := h2
  subst h1; subst h2
  exact ⟨n, rfl, by omega, by omega, q2 F1 H1 Step.refl w _ (by rw [upFrom_length, sizeLine_eq]; omega) (walk_up 0 n.toNat)⟩
/-- zip of two lists, of two tuples -/
def zipD (xs ys : List D) : List D := (xs.zip ys).map fun p => .tup [p.1, p.2]
def zip2 : List D → Option (List D)
  | [.lst xs, .lst ys] => some (zipD xs ys)
  | [.tup xs, .tup ys] => some (zipD xs ys)
  | _ => none
theorem two_le : (2 : Nat) ≤ sizeLine := by rw [sizeLine_eq]; decide
def wipeG (G : Sls) : List Nat → Sls
  | [] => G
  | v :: vs => (wipeG G vs).set v none
theorem wipeG_length (G : Sls) : ∀ vs : List Nat, (wipeG G vs).length = G.length
  | [] => rfl
  | v :: vs => by unfold wipeG; rw [List.length_set, wipeG_length G vs]
theorem wipeG_some {G : Sls} {i : Nat} {x : Sl} : ∀ {vs : List Nat}, (wipeG G vs)[i]? = some (some x) → G[i]? = some (some x) ∧ i ∉ vs
  | [], h => ⟨h, by simp⟩
  | v :: vs, h => by
    unfold wipeG at h
    by_cases z : v = i
    · subst z
      rw [List.getElem?_set] at h
      simp at h
    · rw [List.getElem?_set_ne z] at h
      obtain ⟨h1, h2⟩ := wipeG_some h
      exact ⟨h1, by simp [h2, Ne.symm z]⟩
theorem wipe_keep {sg : L2.St} {i : Nat} : ∀ {vs : List Nat}, i ∉ vs → (wipe sg vs)[i]? = sg[i]?
  | [], _ => rfl
  | v :: vs, h => by
    unfold wipe
    rw [List.getElem?_set_ne (fun z => h (by simp [z]))]
    exact wipe_keep fun z => h (by simp [z])
theorem Sim.wipe {K : PySem.W.Frag} {mg : Str → Option Value} {F0 H0 F H : Hp} {sg : L2.St} {G : Sls} (S : Sim K mg dl F0 H0 F H sg G) (vs : List Nat) : Sim K mg dl F0 H0 F H (L2.wipe sg vs) (wipeG G vs) := by
  refine ⟨by rw [wipeG_length, wipe_length]; exact S.len, fun i s e => ?_, fun i j s t e1 e2 o1 o2 e3 => ?_, S.st, S.tr.keep (fun j t e => ⟨(wipeG_some e).1, wipe_keep (wipeG_some e).2⟩) (fun _ _ z => z) (fun _ _ _ _ _ _ _ _ hf _ => ⟨rfl, hf⟩) fun fp T j s a ej o es i t ei => T.nx i j t s a ei (wipeG_some ej).1 o (by rw [← wipe_keep (wipeG_some ej).2]; exact es)⟩
  · obtain ⟨h1, h2⟩ := wipeG_some e
    rw [wipe_keep h2]
    exact S.sl i s h1
  · obtain ⟨h1, h2⟩ := wipeG_some e1
    obtain ⟨h3, h4⟩ := wipeG_some e2
    rw [wipe_keep h2, wipe_keep h4] at e3
    exact S.dis i j s t h1 h3 o1 o2 e3
/-- the items, one by one -/
def lcM (f : SG) (u : ST) (h : SE) (G : Sls) : List D → M (List D)
  | [] => ret []
  | d :: ds => bnd (ofO (f G d)) fun G' => bnd (u G') fun k => if k then bnd (h G') fun y => bnd (lcM f u h G ds) fun r => ret (y :: r) else lcM f u h G ds
def gLc (vs : List Nat) (it : SA) (f : SG) (u : ST) (h : SE) : SA := fun G => bnd (it G) fun ds => noErr (lcM f u h (wipeG G vs) ds)
def yes : ST := fun _ => ret true
abbrev WF : WX := fun _ _ _ _ => False
theorem dts_nil : PTs X [] (tDT X dl W yes) := ⟨fun pins s sg H Q I h => pts_nil.run pins s sg H Q I (by obtain ⟨F, q⟩ := h; exact q.rt)⟩
theorem lcR {own : List (Str × Nat)} {it : SA} {is : List Nat} {f : SG} {u : ST} {h : SE} {sg : L2.St} {H : Hp} {Q : VK} (hv : ∀ i ∈ is, i ∈ own.map (·.2)) (q : tDO X dl W (gLc (own.map (·.2)) it f u h) sg H Q) :
    tLc (tIm X dl W it) (gD X dl is f) (tDT X dl WF u) (tD X dl WF h) (own.map (·.2)) sg H Q := by
  obtain ⟨F, F0, H0, G, s, w, S, g⟩ := q
  refine ⟨F, F0, H0, G, s, w, S, Go.imp (Go.at Step.refl g) fun ds s1 F1 H1 st1 w1 g1 J dlen wk Dd hD => ?_⟩
  have g2 := Go.noErr g1
  clear g1 g
  have S1 := S.step st1
  have hDH : H Dd = none := st1.al Dd hD
  have ndD : ¬ dl.has Dd := w1.na hD
  refine lc_it wk (fun i H' => ∃ (F' : Hp) (s' : DS) (acc : List D) (accv : List V), Wd dl F' H' s' ∧ Step dl F1 H1 F' H' ∧ F' Dd = none ∧ H' Dd = some (.lst accv) ∧ RepL X.K X.mg dl F' acc accv ∧ accv.length ≤ i ∧
      Go X.mg X.K dl (fun _ _ _ => False) F H (lcM f u h (wipeG G (own.map (·.2))) (ds.drop i) s') fun r _ F2 H2 => ∀ a, NewL X dl H (acc ++ r) F2 H2 a → Q (.ref a) H2) ?_ ?_ ?_ ?_
  · refine ⟨F1, s1, [], [], w1.newO hD, Step.newO hD, w1.fnone hD, upd_same, rfl, Nat.le_refl _, ?_⟩
    simpa using g2
  · rintro i H' hi ⟨F', s', acc, accv, w', st', _⟩ b o nb e
    exact st'.hs b o nb e
  · rintro i x H' H2 hi ⟨F', s', acc, accv, w', st', n', hd', ra, la, go⟩ y
    obtain ⟨F2, d, st2, w2, e2, r2⟩ := y F' s' st'.fs w'
    have hlt : i < ds.length := hi
    have ed : ds.drop i = d :: ds.drop (i + 1) := by
      rw [List.drop_eq_getElem_cons hlt]
      have : ds[i] = d := by
        rw [List.getElem?_eq_getElem hlt] at e2
        exact Option.some.inj e2
      rw [this]
    rw [ed] at go
    have st02 : Step dl F H F2 H2 := st1.trans (st'.trans st2)
    have go1 := Go.at (F1 := F2) (H1 := H2) st02 go
    obtain ⟨G', eG, go2⟩ := go1.ofO
    have go3 := go2 F2 H2 Step.refl w2
    clear go go1 go2
    have nD2 : F2 Dd = none := by
      cases q : F2 Dd with
      | none => rfl
      | some o =>
        rcases st2.nw Dd o q with z | z
        · rw [n'] at z; cases z
        · rw [hd'] at z; cases z
    have hD2 : H2 Dd = some (.lst accv) := st2.hs Dd _ ndD hd'
    refine ⟨F0, H0, F2, wipeG G (own.map (·.2)), s', d, G', w2, (S1.step (st'.trans st2)).wipe _, r2, eG, fun sg2 hw2 S2 => ⟨?_, ?_⟩⟩
    · have e := hw2 (own.map (·.2)) hv
      have id2 : L2.wipe (L2.wipe sg (own.map (·.2))) (own.map (·.2)) = L2.wipe sg (own.map (·.2)) := by
        apply List.ext_getElem?
        intro j
        by_cases hj : j ∈ own.map (·.2)
        · have wn : ∀ (tg : L2.St) (vs : List Nat), j ∈ vs → (L2.wipe tg vs)[j]? = if j < tg.length then some none else none := by
            intro tg vs
            induction vs with
            | nil => intro h; simp at h
            | cons v vs ih =>
              intro hm
              unfold L2.wipe
              by_cases hvj : v = j
              · subst hvj
                rw [List.getElem?_set, wipe_length]
                simp
              · rw [List.getElem?_set_ne hvj]
                exact ih (by
                  rcases List.mem_cons.mp hm with z | z
                  · exact absurd z.symm hvj
                  · exact z)
          rw [wn _ _ hj, wn _ _ hj, wipe_length]
        · rw [wipe_keep hj]
      rw [e, id2]
    · refine ⟨F2, F0, H0, G', s', w2, S2, Go.imp (Go.at st02 go3) fun k s3 F3 H3 st3 w3 go4 => ?_⟩
      have st03 := st02.trans st3
      have nD3 : F3 Dd = none := by
        cases q : F3 Dd with
        | none => rfl
        | some o =>
          rcases st3.nw Dd o q with z | z
          · rw [nD2] at z; cases z
          · rw [hD2] at z; cases z
      have hD3 : H3 Dd = some (.lst accv) := st3.hs Dd _ ndD hD2
      cases k with
      | false =>
        refine iteF ?_
        exact ⟨F3, s3, acc, accv, w3, st'.trans (st2.trans st3), nD3, hD3, RepL.mono (st2.trans st3).fs _ _ ra, Nat.le_succ_of_le la, go4⟩
      | true =>
        refine iteT ?_
        refine ⟨F3, F0, H0, G', s3, w3, S2.step st3, Go.imp (Go.at st03 go4) fun yv s4 F4 H4 st4 w4 go5 v rv => ?_⟩
        have nD4 : F4 Dd = none := by
          cases q : F4 Dd with
          | none => rfl
          | some o =>
            rcases st4.nw Dd o q with z | z
            · rw [nD3] at z; cases z
            · rw [hD3] at z; cases z
        have hD4 : H4 Dd = some (.lst accv) := st4.hs Dd _ ndD hD3
        refine ⟨accv, hD4, by omega, F4, s4, acc ++ [yv], accv ++ [v], ?_, ?_, nD4, upd_same, (RepL.mono ((st2.trans st3).trans st4).fs _ _ ra).append ⟨v, [], rfl, rv, rfl⟩, by simp; omega, ?_⟩
        · refine ⟨fun b o e => ?_, w4.off, ?_, w4.tb.upd (fun _ _ e => e) (fun q hq z => ndD (.inr (.inr (.inr ⟨q.2, by rw [← z]; exact hq⟩)))) (fun _ z => by cases z) (.inl fun _ _ z => by unfold LamX.CodeO at z; cases z)⟩
          · rw [upd_ne (ne_of_none e nD4)]; exact w4.sub b o e
          · obtain ⟨d1, d2, d3, d4⟩ := w4.dr
            exact ⟨by rw [upd_ne (fun z => ndD (by rw [← z]; exact .inl rfl))]; exact d1, by rw [upd_ne (fun z => ndD (by rw [← z]; exact .inr (.inl rfl)))]; exact d2, by rw [upd_ne (fun z => ndD (by rw [← z]; exact .inr (.inr (.inl rfl))))]; exact d3, d4⟩
        · have st14 : Step dl F1 H1 F4 H4 := st'.trans ((st2.trans st3).trans st4)
          exact ⟨st14.fs, fun b o nb e => by rw [upd_ne (ne_of_none e hD)]; exact st14.hs b o nb e, st14.nw, fun b e => by
            by_cases z : b = Dd
            · subst z; exact hD
            · rw [upd_ne z] at e; exact st14.al b e⟩
        · have go6 := Go.at (F1 := F) (H1 := H) Step.refl go5
          refine Go.imp go6 fun r s5 F5 H5 st5 w5 go7 => ?_
          have go8 := go7 F5 H5 st5 w5
          intro a na
          exact go8 a (by simpa using na)
  · rintro H' ⟨F', s', acc, accv, w', st', n', hd', ra, la, go⟩
    rw [List.drop_length] at go
    exact go F' H' (st1.trans st') w' Dd ⟨hDH, n', accv, hd', by
      omega, by simpa using ra⟩
theorem deo_lc {elt tg iter : Expr} {ifs : List Expr} {scope : Scope} {own : List (Str × Nat)} {it : SA} {is : List Nat} {f : SG} {u : ST} {h : SE} (hc : X.calm = true) (hN : X.N.Nodup) (hi : DIm X dl W tg iter it) (ok : BlkOk X.N X.env.scope scope own) (hv : ∀ i ∈ is, i ∈ own.map (·.2))
    (hg : ∀ (s : Shared) (H : Hp) (C : Addr) (cl : List (Str × Addr)) (fp : List Addr), DG (X.blk s H scope (compEnvC scope cl C X.env) fp) dl tg is f)
    (ht : ∀ (s : Shared) (H : Hp) (C : Addr) (cl : List (Str × Addr)) (fp : List Addr), PTs (X.blk s H scope (compEnvC scope cl C X.env) fp) ifs (tDT (X.blk s H scope (compEnvC scope cl C X.env) fp) dl WF u))
    (he : ∀ (s : Shared) (H : Hp) (C : Addr) (cl : List (Str × Addr)) (fp : List Addr), DE (X.blk s H scope (compEnvC scope cl C X.env) fp) dl WF elt h) (hs : ∀ x, foldedSetIterable iter X.env x = pure x := by intro _; rfl) :
    DEO X dl W (.ListComp elt [{ target := tg, iter := iter, ifs := ifs, is_async := 0 }] scope pos) (gLc (own.map (·.2)) it f u h) :=
  PE.of (pe_lc (tt := tDT X dl WF u) (te := tD X dl WF h) (g := gD X dl is f) hc hN hi ok hg ht he hs) fun sg H Q q => lcR hv q
end
end EK


namespace EK
open PySem PySem.Spec PyProof.Rows L2
inductive Out where
  | next (G : Sls) | ret (d : D) | brk (G : Sls) | cont (G : Sls)
abbrev SS := Sls → M Out
section
variable (X : Cx) (dl : Dr X.w) (W : WX)
def GoS (F0 H0 F : Hp) (r : Option (Res Out × DS)) (E : Ends) : Prop := match r with
  | none => False
  | some (.ok (.next G), s') => ∀ F' H' sg', Same F F' → Wd dl F' H' s' → Sim X.K X.mg dl F0 H0 F' H' sg' G → E.nx sg' H'
  | some (.ok (.brk G), s') => ∀ F' H' sg', Same F F' → Wd dl F' H' s' → Sim X.K X.mg dl F0 H0 F' H' sg' G → E.bk sg' H'
  | some (.ok (.cont G), s') => ∀ F' H' sg', Same F F' → Wd dl F' H' s' → Sim X.K X.mg dl F0 H0 F' H' sg' G → E.ct sg' H'
  | some (.ok (.ret d), s') => ∀ F' H' v, Step dl F0 H0 F' H' → Wd dl F' H' s' → Rep X.K X.mg dl F' d v → E.rt v H'
  | some (.err x, s') => ∀ F' H' sg' cls d, Step dl F0 H0 F' H' → Wd dl F' H' s' → ExRep X.mg X.K dl F' H' x cls d → W cls d sg' H'
def tS (f : SS) : TS := fun E sg H => ∃ (F0 H0 F : Hp) (G : Sls) (s : DS), Wd dl F H s ∧ Sim X.K X.mg dl F0 H0 F H sg G ∧ GoS X dl W F0 H0 F (f G s) E
abbrev DSt (st : Stmt) (f : SS) : Prop := PS X st (tS X dl W f)
abbrev DSs (st : List Stmt) (f : SS) : Prop := PSs X st (tS X dl W f)
end
section
variable {X : Cx} {dl : Dr X.w} {W : WX} {pos : Pos} {F0 H0 F H : Hp} {E : Ends}
theorem GoS.mono {F1 : Hp} {r : Option (Res Out × DS)} (h : GoS X dl W F0 H0 F r E) (sm : Same F F1) : GoS X dl W F0 H0 F1 r E := by
  cases r with
  | none => exact h
  | some p =>
    obtain ⟨r, s1⟩ := p
    cases r with
    | err x => exact h
    | ok o =>
      cases o with
      | next G => exact fun F' H' sg' m => h F' H' sg' fun b o e => m b o (sm b o e)
      | brk G => exact fun F' H' sg' m => h F' H' sg' fun b o e => m b o (sm b o e)
      | cont G => exact fun F' H' sg' m => h F' H' sg' fun b o e => m b o (sm b o e)
      | ret d => exact h
/-- an expression (or a test) first -/
theorem GoS.ex {α : Type} {m : M α} {k : α → M Out} {s : DS} {sg : L2.St} (st : Step dl F0 H0 F H) (h : GoS X dl W F0 H0 F (bnd m k s) E) :
    Go X.mg X.K dl (fun c d H' => W c d sg H') F H (m s) fun a s1 _ _ => GoS X dl W F0 H0 F (k a s1) E := by
  unfold bnd at h
  cases e : m s with
  | none => rw [e] at h; exact h
  | some p =>
    obtain ⟨r, s1⟩ := p
    rw [e] at h
    cases r with
    | err x => exact fun F' H' cls d st' w' xr => h F' H' sg cls d (st.trans st') w' xr
    | ok a => exact fun F' H' st' w' => h
theorem GoS.ofO {α : Type} {o : Option α} {k : α → M Out} {s : DS} (h : GoS X dl W F0 H0 F (bnd (EK.ofO o) k s) E) : ∃ a, o = some a ∧ GoS X dl W F0 H0 F (k a s) E := by
  cases o with
  | none => exact h.elim
  | some a => exact ⟨a, rfl, h⟩
/-- a statement first -/
theorem GoS.st {m : M Out} {k : Out → M Out} {s : DS} {E' : Ends} (h : GoS X dl W F0 H0 F (bnd m k s) E)
    (hn : ∀ G s1, GoS X dl W F0 H0 F (k (.next G) s1) E → ∀ F' H' sg', Same F F' → Wd dl F' H' s1 → Sim X.K X.mg dl F0 H0 F' H' sg' G → E'.nx sg' H')
    (hb : ∀ G s1, GoS X dl W F0 H0 F (k (.brk G) s1) E → ∀ F' H' sg', Same F F' → Wd dl F' H' s1 → Sim X.K X.mg dl F0 H0 F' H' sg' G → E'.bk sg' H')
    (hc : ∀ G s1, GoS X dl W F0 H0 F (k (.cont G) s1) E → ∀ F' H' sg', Same F F' → Wd dl F' H' s1 → Sim X.K X.mg dl F0 H0 F' H' sg' G → E'.ct sg' H')
    (hr : ∀ d s1, GoS X dl W F0 H0 F (k (.ret d) s1) E → ∀ F' H' v, Step dl F0 H0 F' H' → Wd dl F' H' s1 → Rep X.K X.mg dl F' d v → E'.rt v H') : GoS X dl W F0 H0 F (m s) E' := by
  unfold bnd at h
  cases e : m s with
  | none => rw [e] at h; exact h
  | some p =>
    obtain ⟨r, s1⟩ := p
    rw [e] at h
    cases r with
    | err x => exact h
    | ok o =>
      cases o with
      | next G => exact hn G s1 h
      | brk G => exact hb G s1 h
      | cont G => exact hc G s1 h
      | ret d => exact hr d s1 h
def sNil : SS := fun G => ret (.next G)
def sSeq (f g : SS) : SS := fun G => bnd (f G) fun o => match o with
  | .next G' => g G'
  | o => ret o
theorem dss_nil : DSs X dl W [] sNil := by
  refine PSs.of pss_nil fun E sg H q => ?_
  obtain ⟨F0, H0, F, G, s, w, S, g⟩ := q
  exact g F H sg (fun _ _ h => h) w S
theorem dss_cons {st : Stmt} {rest : List Stmt} {f g : SS} (h1 : DSt X dl W st f) (h2 : DSs X dl W rest g) : DSs X dl W (st :: rest) (sSeq f g) := by
  refine PSs.of (pss_cons h1 h2) fun E sg H q => ?_
  obtain ⟨F0, H0, F, G, s, w, S, go⟩ := q
  refine ⟨F0, H0, F, G, s, w, S, go.st (fun G1 s1 g1 F' H' sg' sm w' S' => ?_) (fun G1 s1 g1 => g1) (fun G1 s1 g1 => g1) (fun d s1 g1 => g1)⟩
  exact ⟨F0, H0, F', G1, s1, w', S', g1.mono sm⟩
theorem dss_one {st : Stmt} {f : SS} (h1 : DSt X dl W st f) : DSs X dl W [st] f := pss_one h1
/-- what is raised or never reached: no way goes there -/
def sNever : SS := fun _ => fail
variable {e : Expr} {f : SE}
def sExpr (f : SE) : SS := fun G => bnd (f G) fun _ => ret (.next G)
def sRet (f : SE) : SS := fun G => bnd (f G) fun d => ret (.ret d)
theorem ds_ret (he : DE X dl W e f) : DSt X dl W (.Return (some e) pos) (sRet f) := by
  refine PS.of (ps_ret he) fun E sg H q => ?_
  obtain ⟨F0, H0, F, G, s, w, S, g⟩ := q
  exact ⟨F, F0, H0, G, s, w, S, (g.ex S.st).imp fun d s1 F1 H1 st1 w1 g1 v r => g1 F1 H1 v (S.st.trans st1) w1 r⟩
def sAsg (f : SE) (a : SG) : SS := fun G => bnd (f G) fun d => bnd (ofO (a G d)) fun G' => ret (.next G')
theorem set_rd {i : Nat} {sg : L2.St} {H : Hp} (q : tS X dl W (sAsg f (sgN i)) E sg H) : tD X dl W f sg H fun x H1 => gName i x sg H1 E.nx := by
  obtain ⟨F0, H0, F, G, s, w, S, g⟩ := q
  refine ⟨F, F0, H0, G, s, w, S, (g.ex S.st).imp fun d s1 F1 H1 st1 w1 g1 v r => ?_⟩
  exact g1 F1 H1 _ st1.fs w1 ((S.step st1).put r)
theorem ds_set (i : Nat) {x : Str} {pos' : Pos} (hN : X.N.Nodup) (he : DE X dl W e f) (hi : X.N[i]? = some x := by rfl) (hx : Loc X.env.scope x := by first | exact Or.inl rfl | exact Or.inr rfl) (hs : swapsWith e (some (.Name x pos')) pos.line X.env = pure false := by rfl) (hf : X.fn x = true ∨ X.env.scope.names.lookup x = some .local := by first | exact .inl rfl | exact .inr rfl | assumption) :
    DSt X dl W (.Assign [.Name x pos'] e pos) (sAsg f (sgN i)) :=
  PS.of (ps_set hN hi hx he hs hf) fun E sg H q => set_rd q
def sIf (u : ST) (f g : SS) : SS := fun G => bnd (u G) fun k => if k then f G else g G
theorem ds_if {c : Expr} {a b : List Stmt} {u : ST} {f g : SS} (hc : DT X dl W c u) (ha : DSs X dl W a f) (hb : DSs X dl W b g) : DSt X dl W (.If c a b pos) (sIf u f g) := by
  refine PS.of (ps_if hc ha hb) fun E sg H q => ?_
  obtain ⟨F0, H0, F, G, s, w, S, g⟩ := q
  refine ⟨F, F0, H0, G, s, w, S, (g.ex S.st).imp fun k s1 F1 H1 st1 w1 g1 => ?_⟩
  cases k with
  | true => exact iteT ⟨F0, H0, F1, G, s1, w1, S.step st1, g1.mono st1.fs⟩
  | false => exact iteF ⟨F0, H0, F1, G, s1, w1, S.step st1, g1.mono st1.fs⟩
/-- the own list of slot i is known to others from here on -/
def frz (i : Nat) (G : Sls) : Sls := match G[i]? with
  | some (some (.own ds)) => G.set i (some (.fz (.lst ds)))
  | _ => G
theorem Sim.frz {sg : L2.St} {G : Sls} {s : DS} (i : Nat) (w : Wd dl F H s) (S : Sim X.K X.mg dl F0 H0 F H sg G) : ∃ F', Wd dl F' H s ∧ Sim X.K X.mg dl F0 H0 F' H sg (EK.frz i G) ∧ Same F F' := by
  cases e1 : G[i]? with
  | none => exact ⟨F, w, by simpa only [EK.frz, e1] using S, fun _ _ h => h⟩
  | some o =>
    cases o with
    | none => exact ⟨F, w, by simpa only [EK.frz, e1] using S, fun _ _ h => h⟩
    | some sl =>
      cases sl with
      | fz _ => exact ⟨F, w, by simpa only [EK.frz, e1] using S, fun _ _ h => h⟩
      | ini _ _ _ => exact ⟨F, w, by simpa only [EK.frz, e1] using S, fun _ _ h => h⟩
      | ownX _ _ => exact ⟨F, w, by simpa only [EK.frz, e1] using S, fun _ _ h => h⟩
      | tree _ => exact ⟨F, w, by simpa only [EK.frz, e1] using S, fun _ _ h => h⟩
      | own ds =>
        obtain ⟨v, h1, a, vs, rfl, h3, h4, h5, h6, h7, h8⟩ := S.sl i _ e1
        have sm : Same F (upd F a (.lst vs)) := Same.updN h4
        refine ⟨upd F a (.lst vs), w.freeze h3 h4 h6, ?_, sm⟩
        simp only [EK.frz, e1]
        have other : ∀ (j : Nat) (t : Sl), i ≠ j → G[j]? = some (some t) → ∃ u, sg[j]? = some (some u) ∧ SlOk X.K X.mg dl H0 (upd F a (.lst vs)) H t u := fun j t hij ej => by
          obtain ⟨u, k1, k2⟩ := S.sl j t ej
          refine ⟨u, k1, ?_⟩
          have nea : ∀ b, t.isOwn = true → (u = .ref b → b ≠ a) := fun b ho eu z => by
            subst z; subst eu
            exact hij (S.dis i j _ t e1 ej rfl ho (h1.trans k1.symm))
          cases t with
          | fz d => exact Rep.mono sm d u k2
          | own es =>
            obtain ⟨b, us, rfl, m2, m3, m4, m5, m6, m7⟩ := k2
            exact ⟨b, us, rfl, m2, by rw [upd_ne (nea b rfl rfl)]; exact m3, m4, m5, m6, RepL.mono sm _ _ m7⟩
          | ini c ns es =>
            obtain ⟨b, dx, C, us, rfl, m2, m3, m4, m5, m6, m7, m8, m9, m10, m11, m12, m13⟩ := k2
            refine ⟨b, dx, C, us, rfl, m2, m3, m4, by rw [upd_ne (nea b rfl rfl)]; exact m5, ?_, m7, m8, m9, m10, m11, m12, RepL.mono sm _ _ m13⟩
            rw [upd_ne (fun z => by rw [z, h3] at m4; cases m4)]; exact m6
          | ownX kk es =>
            obtain ⟨b, us, rfl, m2, m3, m4, m5, m6, m7, m8⟩ := k2
            exact ⟨b, us, rfl, m2, by rw [upd_ne (nea b rfl rfl)]; exact m3, m4, m5, m6, m7, RepL.mono sm _ _ m8⟩
          | tree _ => trivial
        have hil : i < G.length := by
          by_cases q : i < G.length
          · exact q
          · rw [List.getElem?_eq_none (by omega)] at e1; cases e1
        refine ⟨by rw [List.length_set]; exact S.len, fun j t ej => ?_, fun j k t u ej ek o1 o2 e3 => ?_, ⟨fun b o e => sm b o (S.st.fs b o e), S.st.hs, fun b o e => ?_, S.st.al⟩, S.tr.at e1 rfl (fun _ z => nomatch z) h1 sm (fun _ _ => rfl) (fun b hb => upd_ne hb)⟩
        · by_cases hij : i = j
          · subst hij
            rw [List.getElem?_set_self hil] at ej
            cases ej
            exact ⟨.ref a, h1, a, vs, rfl, upd_same, h7, RepL.mono sm _ _ h8⟩
          · rw [List.getElem?_set_ne hij] at ej
            exact other j t hij ej
        · have nz : ∀ m (t : Sl), (G.set i (some (.fz (.lst ds))))[m]? = some (some t) → t.isOwn = true → i ≠ m := fun m t e o z => by
            subst z
            rw [List.getElem?_set_self hil] at e; cases e; cases o
          have z1 := nz j t ej o1
          have z2 := nz k u ek o2
          rw [List.getElem?_set_ne z1] at ej
          rw [List.getElem?_set_ne z2] at ek
          exact S.dis j k t u ej ek o1 o2 e3
        · by_cases z : b = a
          · subst z; exact .inr h5
          · rw [upd_ne z] at e; exact S.st.nw b o e
def sFrz (i : Nat) (f : SS) : SS := fun G => f (frz i G)
/-- x = a new list, which stays the def's own -/
def sOwn (i : Nat) (f : SA) : SS := fun G => bnd (f G) fun ds => ret (.next (G.set i (some (.own ds))))
theorem Sim.putOwn {sg : L2.St} {G : Sls} {i : Nat} {a : Addr} {ds : List D} {vs : List V} (S : Sim X.K X.mg dl F0 H0 F H sg G) (hn : ∀ (j : Nat) (t : Sl), i ≠ j → G[j]? = some (some t) → t.isOwn = true → sg[j]? ≠ some (some (.ref a))) (hT : ∀ fp, TrOk X.K X.mg dl H0 F H sg G fp → ∀ (j : Nat) (t : T), G[j]? = some (some (.tree t)) → a ∉ fp j)
    (h3 : H a = some (.lst vs)) (h4 : F a = none) (h5 : H0 a = none) (h6 : ¬ dl.has a) (h7 : vs.length ≤ sizeLine) (h8 : RepL X.K X.mg dl F ds vs) : Sim X.K X.mg dl F0 H0 F H (sg.set i (some (.ref a))) (G.set i (some (.own ds))) := by
  have gi : ∀ {t : Sl}, (G.set i (some (.own ds)))[i]? = some (some t) → i < G.length ∧ t = .own ds := fun {t} e => by
    by_cases q : i < G.length
    · rw [List.getElem?_set_self q] at e; cases e; exact ⟨q, rfl⟩
    · rw [List.getElem?_set] at e; simp [q] at e
  refine ⟨by rw [List.length_set, List.length_set]; exact S.len, fun j t ej => ?_, fun j k t u ej ek o1 o2 e3 => ?_, S.st, S.tr.put (fun _ z => nomatch z) (fun _ b hb => by cases hb; exact hT)⟩
  · by_cases hij : i = j
    · subst hij
      obtain ⟨q, rfl⟩ := gi ej
      exact ⟨.ref a, List.getElem?_set_self (by rw [← S.len]; exact q), a, vs, rfl, h3, h4, h5, h6, h7, h8⟩
    · rw [List.getElem?_set_ne hij] at ej
      rw [List.getElem?_set_ne hij]
      exact S.sl j t ej
  · by_cases hij : i = j
    · subst hij
      by_cases hik : i = k
      · exact hik
      · obtain ⟨q, _⟩ := gi ej
        rw [List.getElem?_set_ne hik] at ek e3
        rw [List.getElem?_set_self (by rw [← S.len]; exact q)] at e3
        exact absurd e3.symm (hn k u hik ek o2)
    · rw [List.getElem?_set_ne hij] at ej e3
      by_cases hik : i = k
      · subst hik
        obtain ⟨q, _⟩ := gi ek
        rw [List.getElem?_set_self (by rw [← S.len]; exact q)] at e3
        exact absurd e3 (hn j t hij ej o1)
      · rw [List.getElem?_set_ne hik] at ek e3
        exact S.dis j k t u ej ek o1 o2 e3
theorem Sim.putX {sg : L2.St} {G : Sls} {i : Nat} {a : Addr} {k : OK} {ds : List D} {vs : List V} (S : Sim X.K X.mg dl F0 H0 F H sg G) (hn : ∀ (j : Nat) (t : Sl), i ≠ j → G[j]? = some (some t) → t.isOwn = true → sg[j]? ≠ some (some (.ref a))) (hT : ∀ fp, TrOk X.K X.mg dl H0 F H sg G fp → ∀ (j : Nat) (t : T), G[j]? = some (some (.tree t)) → a ∉ fp j)
    (h3 : H a = some (k.ho vs)) (h4 : F a = none) (h5 : H0 a = none) (h6 : ¬ dl.has a) (h7 : k.len = vs.length) (h9 : k.len ≤ 1000 ∧ k.nd) (h8 : RepL X.K X.mg dl F ds vs) : Sim X.K X.mg dl F0 H0 F H (sg.set i (some (.ref a))) (G.set i (some (.ownX k ds))) := by
  have gi : ∀ {t : Sl}, (G.set i (some (.ownX k ds)))[i]? = some (some t) → i < G.length ∧ t = .ownX k ds := fun {t} e => by
    by_cases q : i < G.length
    · rw [List.getElem?_set_self q] at e; cases e; exact ⟨q, rfl⟩
    · rw [List.getElem?_set] at e; simp [q] at e
  refine ⟨by rw [List.length_set, List.length_set]; exact S.len, fun j t ej => ?_, fun j m t u ej ek o1 o2 e3 => ?_, S.st, S.tr.put (fun _ z => nomatch z) (fun _ b hb => by cases hb; exact hT)⟩
  · by_cases hij : i = j
    · subst hij
      obtain ⟨q, rfl⟩ := gi ej
      exact ⟨.ref a, List.getElem?_set_self (by rw [← S.len]; exact q), a, vs, rfl, h3, h4, h5, h6, h7, h9, h8⟩
    · rw [List.getElem?_set_ne hij] at ej
      rw [List.getElem?_set_ne hij]
      exact S.sl j t ej
  · by_cases hij : i = j
    · subst hij
      by_cases hik : i = m
      · exact hik
      · obtain ⟨q, _⟩ := gi ej
        rw [List.getElem?_set_ne hik] at ek e3
        rw [List.getElem?_set_self (by rw [← S.len]; exact q)] at e3
        exact absurd e3.symm (hn m u hik ek o2)
    · rw [List.getElem?_set_ne hij] at ej e3
      by_cases hik : i = m
      · subst hik
        obtain ⟨q, _⟩ := gi ek
        rw [List.getElem?_set_self (by rw [← S.len]; exact q)] at e3
        exact absurd e3 (hn j t hij ej o1)
      · rw [List.getElem?_set_ne hik] at ek e3
        exact S.dis j m t u ej ek o1 o2 e3
theorem Sim.notAt {sg : L2.St} {G : Sls} {a : Addr} {F1 H1 : Hp} (S : Sim X.K X.mg dl F0 H0 F H sg G) (h : H a = none) : ∀ (j : Nat) (t : Sl), G[j]? = some (some t) → t.isOwn = true → sg[j]? ≠ some (some (.ref a)) := fun j t ej o z => by
  obtain ⟨u, k1, k2⟩ := S.sl j t ej
  rw [z] at k1
  cases k1
  cases t with
  | fz _ => cases o
  | own es =>
    obtain ⟨b, us, e, m2, _⟩ := k2
    cases e
    rw [h] at m2; cases m2
  | ini c ns es =>
    obtain ⟨b, dx, C, us, e, m2, m3, _⟩ := k2
    cases e
    rw [h] at m3; cases m3
  | ownX kk es =>
    obtain ⟨b, us, e, m2, _⟩ := k2
    cases e
    rw [h] at m2; cases m2
  | tree _ => cases o
/-- what is new lies in no tree -/
theorem Sim.notTr {sg : L2.St} {G : Sls} {a : Addr} {F1 H1 : Hp} (S : Sim X.K X.mg dl F0 H0 F H sg G) (st : Step dl F H F1 H1) (h : H a = none) : ∀ fp, TrOk X.K X.mg dl H0 F1 H1 sg G fp → ∀ (j : Nat) (t : T), G[j]? = some (some (.tree t)) → a ∉ fp j := fun fp T j t ej z => by
  obtain ⟨fp0, T0⟩ := S.tr
  obtain ⟨v, q1, q2, q3, q4⟩ := T0.at_ j t ej
  obtain ⟨u, r1, r2, r3, r4⟩ := T.at_ j t ej
  rw [q1] at r1
  cases r1
  have so := TR.some t v _ q2
  have q5 := TR.mono st.fs t v _ (fun b hb => by
    obtain ⟨o, ho⟩ := so b hb
    rw [ho]
    exact st.hs b o (q4 b hb).2.2 ho) q2
  rw [← TR.det t v _ _ q5 r2] at z
  obtain ⟨o, ho⟩ := so a z
  rw [h] at ho
  cases ho
/-- x.append(e) -/
def sApp (i : Nat) (f : SE) : SS := fun G => match G[i]? with
  | some (some (.own ds)) => bnd (f G) fun d => if ds.length < sizeLine then ret (.next (G.set i (some (.own (ds ++ [d]))))) else fail
  | _ => fail
end
end EK


namespace EK
open PySem PySem.Spec PyProof.Rows L2
section
variable {X : Cx} {dl : Dr X.w} {W : WX} {pos : Pos} {F0 H0 F H : Hp} {E : Ends} {e : Expr} {f : SE}
theorem Wd.setO {s : DS} {a : Addr} {o : HO} (w : Wd dl F H s) (n : F a = none) (nd : ¬ dl.has a) (ho : NotTbl o := by intro _ z; cases z) (hc : NotCode o := by intro _ _ z; unfold LamX.CodeO at z; cases z) : Wd dl F (upd H a o) s := by
  refine ⟨fun b u e => ?_, w.off, ?_, w.tb.upd (fun _ _ e => e) (fun q hq z => nd (.inr (.inr (.inr ⟨q.2, by rw [← z]; exact hq⟩)))) ho (.inl hc)⟩
  · rw [upd_ne (ne_of_none e n)]; exact w.sub b u e
  · obtain ⟨d1, d2, d3, d4⟩ := w.dr
    exact ⟨by rw [upd_ne (fun z => nd (by rw [← z]; exact .inl rfl))]; exact d1, by rw [upd_ne (fun z => nd (by rw [← z]; exact .inr (.inl rfl)))]; exact d2, by rw [upd_ne (fun z => nd (by rw [← z]; exact .inr (.inr (.inl rfl))))]; exact d3, d4⟩
theorem get_lt {α : Type} {l : List α} {i : Nat} {x : α} (h : l[i]? = some x) : i < l.length := (List.getElem?_eq_some_iff.mp h).1
def forM (a : SG) (b : SS) : List D → Sls → M Out
  | [], G => ret (.next G)
  | d :: ds, G => bnd (ofO (a G d)) fun G' => bnd (b G') fun o => match o with
    | .next G2 => forM a b ds G2
    | .cont G2 => forM a b ds G2
    | .brk G2 => ret (.next G2)
    | .ret d => ret (.ret d)
def sFor (it : SA) (a : SG) (b : SS) : SS := fun G => bnd (it G) fun ds => forM a b ds G
theorem ds_for {tg iter : Expr} {body : List Stmt} {it : SA} {is : List Nat} {a : SG} {b : SS} (hp : PassesOwn (model X.prog X.w) X.A X.env X.xe) (hc : X.calm = true) (hi : DIs X dl W tg iter it) (hg : DG X dl tg is a) (hb : DSs X dl W body b)
    (h1 : ∀ x, foldedSetIterable iter X.env x = pure x := by intro _; rfl) : DSt X dl W (.For tg iter body [] pos) (sFor it a b) := by
  refine PS.of (ps_for hp hc hi hg hb h1) fun E sg H q => ?_
  obtain ⟨F0, H0, F, G, s, w, S, g⟩ := q
  refine ⟨F, F0, H0, G, s, w, S, (g.ex (sg := sg) S.st).imp fun ds s1 F1 H1 st1 w1 g1 J hz wk => ?_⟩
  refine for_it wk (fun i sg' H' => ∃ (F' : Hp) (G' : Sls) (s' : DS), Wd dl F' H' s' ∧ Sim X.K X.mg dl F0 H0 F' H' sg' G' ∧ Same F1 F' ∧ GoS X dl W F0 H0 F' (forM a b (ds.drop i) G' s') E) ?_ ?_ ?_ ?_
  · exact ⟨F1, G, s1, w1, S.step st1, fun _ _ h => h, by simpa using g1.mono st1.fs⟩
  · rintro i sg' H' _ ⟨F', G', s', w', S', sm, _⟩ c o e
    exact w'.sub c o (sm c o e)
  · rintro i x sg' H' H2 hlt ⟨F', G', s', w', S', sm, go⟩ y
    obtain ⟨F2, d, st2, w2, e2, r2⟩ := y F' s' sm w'
    have ed : ds.drop i = d :: ds.drop (i + 1) := by
      rw [List.drop_eq_getElem_cons hlt]
      have : ds[i] = d := by
        rw [List.getElem?_eq_getElem hlt] at e2
        exact Option.some.inj e2
      rw [this]
    rw [ed] at go
    obtain ⟨G2, eG, go2⟩ := GoS.ofO go
    refine ⟨F0, H0, F2, G', s', d, G2, w2, S'.step st2, r2, eG, fun sg2 _ S2 => ?_⟩
    have smF : Same F1 F2 := fun c o h => st2.fs c o (sm c o h)
    refine ⟨F0, H0, F2, G2, s', w2, S2, ?_⟩
    refine (go2.mono st2.fs).st (fun G3 s3 g3 F3 H3 sg3 sm3 w3 S3 => ?_) (fun G3 s3 g3 => g3) (fun G3 s3 g3 F3 H3 sg3 sm3 w3 S3 => ?_) (fun d3 s3 g3 => g3)
    · exact ⟨F3, G3, s3, w3, S3, fun c o h => sm3 c o (smF c o h), g3.mono sm3⟩
    · exact ⟨F3, G3, s3, w3, S3, fun c o h => sm3 c o (smF c o h), g3.mono sm3⟩
  · rintro sg' H' ⟨F', G', s', w', S', sm, go⟩
    rw [List.drop_length] at go
    exact go F' H' sg' (fun _ _ h => h) w' S'
end

section
variable (K : PySem.W.Frag) (mg : Str → Option Value)
/-- a def's promise: from n arguments, by m -/
def spD (w : World) (n : Nat) (m : List D → M D) : Sp := fun vs H Q E => vs.length = n ∧ ∃ (dl : Dr w) (F : Hp) (ds : List D) (s : DS), Wd dl F H s ∧ RepL K mg dl F ds vs ∧ Go mg K dl E F H (m ds s) fun d _ F' H' => ∀ v, Rep K mg dl F' d v → Q v H'
end
/-- the slots at the beginning -/
def startG (n : Nat) (ds : List D) : Sls := ds.map (fun d => some (.fz d)) ++ List.replicate (n - ds.length) none
/-- a body, run -/
def runB (n : Nat) (b : SS) (ds : List D) : M D := bnd (b (startG n ds)) fun o => match o with
  | .next _ => ret .non
  | .ret d => ret d
  | _ => fail
theorem sim_start {K : PySem.W.Frag} {mg : Str → Option Value} {wd : World} {dl : Dr wd} {F H : Hp} {N : List Str} {ds : List D} {vs : List V} (r : RepL K mg dl F ds vs) : Sim K mg dl F H F H (start N vs) (startG N.length ds) := by
  have hl := r.length
  have key : ∀ (i : Nat) (s : Sl), (startG N.length ds)[i]? = some (some s) → ∃ d, s = .fz d ∧ ds[i]? = some d := fun i s h => by
    unfold startG at h
    by_cases q : i < ds.length
    · rw [List.getElem?_append_left (by simpa using q), List.getElem?_map] at h
      cases e : ds[i]? with
      | none => rw [e] at h; cases h
      | some d => rw [e] at h; cases h; exact ⟨d, rfl, rfl⟩
    · rw [List.getElem?_append_right (by simpa using q), List.getElem?_replicate] at h
      split at h <;> cases h
  refine ⟨?_, fun i s h => ?_, fun i j s t e1 e2 o1 o2 _ => ?_, Step.refl, Trs.no fun i t e => by
    obtain ⟨d, z, _⟩ := key i _ e
    cases z⟩
  · unfold L2.start startG
    simp only [List.length_append, List.length_map, List.length_replicate]
    rw [hl]
  · obtain ⟨d, rfl, hd⟩ := key i s h
    obtain ⟨v, h1, h2⟩ := r.get hd
    refine ⟨v, ?_, h2⟩
    unfold L2.start
    rw [List.getElem?_append_left (by simpa using get_lt h1), List.getElem?_map, h1]
    rfl
  · obtain ⟨d, rfl, _⟩ := key i s e1
    cases o1
/-- a def, its arguments bound, kept by m; by levels -/
structure DFn (P : Program) (w : World) (K : PySem.W.Frag) (mg : Str → Option Value) (base : Heap) (x : Str) (k n : Nat) (m : List D → M D) : Prop where
  ex : ∃ (f : Addr) (fd : FuncData) (ps : List Str), mg x = some (.ref f) ∧ PySem.W.keepIn K (.ref f) = true ∧ ps.length = n ∧ Binds K fd ps [] ∧ FnOk P w K mg base (L2.CX P w) k f fd ps (spD K mg w n m)
theorem dfn_of {P : Program} {w : World} {K : PySem.W.Frag} {mg : Str → Option Value} {base : Heap} {x qual : Str} {st : Stmt} {f : Addr} {fd : FuncData} {N ps : List Str} {k n : Nat} {b : SS} {dvs : List V} {kws : List (Str × V)} (F : FunD K x qual (defArgs st) (defBody st) (defScope st) dvs kws f fd) (S : FnScope N ps (defScope st)) (hn : ps.length = n)
    (hb : ∀ (cdv : Value) (A : Around) (outer : List Env) (s : Shared) (H : Hp) (E : XK) (dl : Dr w), Room k (cxOf (L2.CX P w) P w K mg base N qual (defScope st) f cdv A outer s H E).A →
      Takes (cxOf (L2.CX P w) P w K mg base N qual (defScope st) f cdv A outer s H E) (fun cls d _ H => E cls d H) →
      PassesOwn (model P w) (cxOf (L2.CX P w) P w K mg base N qual (defScope st) f cdv A outer s H E).A (cxOf (L2.CX P w) P w K mg base N qual (defScope st) f cdv A outer s H E).env (cxOf (L2.CX P w) P w K mg base N qual (defScope st) f cdv A outer s H E).xe →
      DSs (cxOf (L2.CX P w) P w K mg base N qual (defScope st) f cdv A outer s H E) dl (fun cls d _ H => E cls d H) (defBody st) b) :
    FnOk P w K mg base (L2.CX P w) (k + 1) f fd ps (spD K mg w n (runB N.length b)) := by
  refine F.ok S (fun vs H Q E h => h.1.trans hn.symm) fun cdv A outer s H vs Q E hr h => ?_
  obtain ⟨hlen, dl, Fz, ds, s0, wd, rp, go⟩ := h
  refine ⟨_, hb cdv A outer s H E dl hr (takes_of rfl rfl rfl rfl) (passes_of rfl), ?_⟩
  refine ⟨Fz, H, Fz, startG N.length ds, s0, wd, sim_start rp, ?_⟩
  unfold runB bnd at go
  cases e : b (startG N.length ds) s0 with
  | none => rw [e] at go; exact go
  | some p =>
    obtain ⟨r, s1⟩ := p
    rw [e] at go
    cases r with
    | err x => exact fun F' H' sg' cls d st w xr => go F' H' cls d st w xr
    | ok o =>
      cases o with
      | next G => exact fun F' H' sg' sm w S => go F' H' S.st w .non rfl
      | brk G => exact go.elim
      | cont G => exact go.elim
      | ret d => exact fun F' H' v st w r => go F' H' st w v r
section
variable {X : Cx} {dl : Dr X.w} {W : WX} {pos p : Pos} {x : Str} {e : Expr} {es : List Expr} {ra : SA} {k n : Nat} {m : List D → M D}
def gCall (n : Nat) (m : List D → M D) (ra : SA) : SE := fun G => bnd (ra G) fun ds => if ds.length = n then m ds else fail
theorem de_call (h : DFn X.prog X.w X.K X.mg X.base x k n m) (hr : Room k X.A) (tk : Takes X W) (ha : DA X dl W (e :: es) ra) (hg : Gl X x := by rfl)
    (hdb : (x == ("__debug__" : Str)) = false := by decide) (he : starEach (e :: es) X.env = (false, eval e X.env) :: starEach es X.env := by rfl) (hpl : (backTo pos (starEach es X.env)).any (·.1) = false := by rfl) :
    DE X dl W (.Call (.Name x p) (e :: es) [] pos) (gCall n m ra) := by
  obtain ⟨f, fd, ps, h1, h2, h3, h4, h5⟩ := h.ex
  refine PE.of (pe_callS h5 hr hg h1 h2 h4 (fun sg => passAt tk sg) ha hdb he hpl) fun sg H Q q => ?_
  obtain ⟨F, F0, H0, G, s, w, S, g⟩ := q
  refine ⟨F, F0, H0, G, s, w, S, g.bnd.imp fun ds s1 F1 H1 st1 w1 g1 vs rvs => ?_⟩
  by_cases hl : ds.length = n
  · rw [if_pos hl] at g1
    exact ⟨rvs.length.symm.trans hl, dl, F1, ds, s1, w1, rvs, g1⟩
  · rw [if_neg hl] at g1
    exact g1.elim
end
end EK


namespace EK
open PySem PySem.Spec PyProof.Rows L2
section
variable {X : Cx} {dl : Dr X.w} {W : WX}
/-- from a rule over values to one over data -/
theorem rd_of {r : R2} {g : D → D → Option D} {f : Value → Value → Sem Value} (h : OpR X f r)
    (w : ∀ x y H Q F s a b d, Wd dl F H s → Rep X.K X.mg dl F a x → Rep X.K X.mg dl F b y → g a b = some d → (∀ F' H' v, Step dl F H F' H' → Wd dl F' H' s → Rep X.K X.mg dl F' d v → Q v H') → r x y H Q) : OpR X f (rD X dl g) := by
  intro pins s sg H x y v u Q I rx ry q
  obtain ⟨F, st, a, b, d, wd, ra, rb, e, k⟩ := q
  exact h pins s sg H x y v u Q I rx ry (w x y H Q F st a b d wd ra rb e k)
theorem opR_or {r r' : R2} {f : Value → Value → Sem Value} (h : OpR X f r) (h' : OpR X f r') : OpR X f (fun x y H Q => r x y H Q ∨ r' x y H Q) := by
  intro pins s sg H x y v u Q I rx ry q
  rcases q with q | q
  · exact h pins s sg H x y v u Q I rx ry q
  · exact h' pins s sg H x y v u Q I rx ry q
def iop (g : Int → Int → D) : D → D → Option D
  | .int i, .int j => some (g i j)
  | _, _ => none
theorem iop_some {g : Int → Int → D} {a b d : D} (h : iop g a b = some d) : ∃ i j, a = .int i ∧ b = .int j ∧ d = g i j := by
  unfold iop at h
  split at h
  · cases h; exact ⟨_, _, rfl, rfl, rfl⟩
  · cases h
theorem op_iop {f : Value → Value → Sem Value} {g : Int → Int → V} {g' : Int → Int → D} (h : OpR X f (rI0 g)) (hg : ∀ i j F, Rep X.K X.mg dl F (g' i j) (g i j)) : OpR X f (rD X dl (iop g')) := by
  refine rd_of h fun x y H Q F s a b d w ra rb e k => ?_
  obtain ⟨i, j, rfl, rfl, rfl⟩ := iop_some e
  exact ⟨i, j, ra, rb, k F H _ Step.refl w (hg i j F)⟩
/-- under a condition -/
def iopC (c : Int → Int → Bool) (g : Int → Int → D) : D → D → Option D
  | .int i, .int j => if c i j then some (g i j) else none
  | _, _ => none
theorem iopC_some {c : Int → Int → Bool} {g : Int → Int → D} {a b d : D} (h : iopC c g a b = some d) : ∃ i j, a = .int i ∧ b = .int j ∧ c i j = true ∧ d = g i j := by
  unfold iopC at h
  split at h
  · split at h
    · rename_i hc
      cases h; exact ⟨_, _, rfl, rfl, hc, rfl⟩
    · cases h
  · cases h
theorem op_iopC {f : Value → Value → Sem Value} {C : Int → Int → Prop} {c : Int → Int → Bool} {g : Int → Int → V} {g' : Int → Int → D} (h : OpR X f (rI C g)) (hc : ∀ i j, c i j = true → C i j) (hg : ∀ i j F, Rep X.K X.mg dl F (g' i j) (g i j)) : OpR X f (rD X dl (iopC c g')) := by
  refine rd_of h fun x y H Q F s a b d w ra rb e k => ?_
  obtain ⟨i, j, rfl, rfl, hcc, rfl⟩ := iopC_some e
  exact ⟨i, j, ra, rb, hc i j hcc, k F H _ Step.refl w (hg i j F)⟩
def subD := iop fun i j => .int (i - j)
def mulI : D → D → Option D := iopC (fun i j => decide ((-(2 ^ 64) < i ∧ i < 2 ^ 64) ∨ (-(2 ^ 64) < j ∧ j < 2 ^ 64))) fun i j => .int (i * j)
def fdivD : D → D → Option D := iopC (fun i j => decide (0 < j ∧ j < 1073741824)) fun i j => .int (i / j)
def modD : D → D → Option D := iopC (fun i j => decide (0 < j)) fun i j => .int (i % j)
theorem od_mod : OpR X (binaryOp .Mod) (rD X dl modD) := op_iopC op_mod (fun _ _ h => of_decide_eq_true h) fun _ _ _ => rfl
theorem od_fdiv : OpR X (binaryOp .FloorDiv) (rD X dl fdivD) := op_iopC op_fdiv (fun i j h => (of_decide_eq_true h : 0 < j ∧ j < 1073741824)) fun _ _ _ => rfl
def ltI := iop fun i j => .bl (decide (i < j))
def leI := iop fun i j => .bl (decide (i ≤ j))
def gtI := iop fun i j => .bl (decide (j < i))
def geI := iop fun i j => .bl (decide (j ≤ i))
theorem od_gt : OpR X (compareOp .Gt) (rD X dl gtI) := op_iop op_gt fun _ _ _ => rfl
/-- < of ints and of texts -/
def ltD : D → D → Option D
  | .int i, .int j => some (.bl (decide (i < j)))
  | .str x, .str y => some (.bl (decide (x.cps.toList < y.cps.toList)))
  | _, _ => none
def addD : D → D → Option D
  | .int i, .int j => some (.int (i + j))
  | .str x, .str y => if x.length + y.length ≤ sizeLine then some (.str (x ++ y)) else none
  | .lst xs, .lst ys => if xs.length + ys.length ≤ sizeLine then some (.lst (xs ++ ys)) else none
  | .tup xs, .tup ys => if xs.length + ys.length ≤ sizeLine then some (.tup (xs ++ ys)) else none
  | _, _ => none
theorem od_add : OpR X (binaryOp .Add) (rD X dl addD) := by
  refine rd_of (opR_or (opR_or op_add op_add_str) (opR_or op_cat op_catA)) fun x y H Q F s a b d w ra rb e k => ?_
  unfold addD at e
  split at e
  · cases e; exact .inl (.inl ⟨_, _, ra, rb, k F H _ Step.refl w rfl⟩)
  · split at e
    · rename_i hl
      cases e; exact .inl (.inr ⟨_, _, ra, rb, hl, k F H _ Step.refl w rfl⟩)
    · cases e
  · split at e
    · rename_i hl
      cases e
      obtain ⟨a1, vs, rfl, h2, h3, h4⟩ := ra
      obtain ⟨a2, us, rfl, h5, h6, h7⟩ := rb
      rw [h4.length, h7.length] at hl
      exact .inr (.inl ⟨a1, a2, vs, us, rfl, rfl, w.sub _ _ h2, w.sub _ _ h5, hl, fun p hp => k _ _ _ (Step.new w hp) (w.new hp) ⟨p, vs ++ us, rfl, upd_same, by rw [List.length_append]; exact hl, RepL.mono (Step.new w hp).fs _ _ (h4.append h7)⟩⟩)
    · cases e
  · rename_i xs ys
    split at e
    · rename_i hl
      cases e
      have ra0 := ra
      have rb0 := rb
      obtain ⟨a1, vs, rfl, h2, h3, h4⟩ := ra
      obtain ⟨a2, us, rfl, h5, h6, h7⟩ := rb
      rw [h4.length, h7.length] at hl
      refine .inr (.inr ⟨a1, a2, vs, us, rfl, rfl, Same.seqT w.sub h2, Same.seqT w.sub h5, hl, fun z => ?_, fun _ z => ?_, fun _ _ p hp => ?_⟩)
      · subst z
        have : xs = [] := List.eq_nil_of_length_eq_zero h4.length
        subst this
        exact k F H _ Step.refl w rb0
      · subst z
        have : ys = [] := List.eq_nil_of_length_eq_zero h7.length
        subst this
        exact k F H _ Step.refl w (by simpa using ra0)
      · exact k _ _ _ (Step.new w hp) (w.new hp) ⟨p, vs ++ us, rfl, SqT.of upd_same, by rw [List.length_append]; exact hl, RepL.mono (Step.new w hp).fs _ _ (h4.append h7)⟩
    · cases e
  · cases e
/-- list * n; n * n -/
def mulD : D → D → Option D
  | .lst xs, .int k => if -1000000 ≤ k ∧ k ≤ 1000000 ∧ xs.length * k.toNat ≤ sizeLine then some (.lst (List.replicate k.toNat xs).flatten) else none
  | a, b => mulI a b
theorem RepL.flat {F : Hp} {ds : List D} {vs : List V} (h : RepL X.K X.mg dl F ds vs) : ∀ n : Nat, RepL X.K X.mg dl F (List.replicate n ds).flatten (List.replicate n vs).flatten
  | 0 => rfl
  | n + 1 => by
    rw [List.replicate_succ, List.replicate_succ, List.flatten_cons, List.flatten_cons]
    exact h.append (RepL.flat h n)
theorem flat_len {α : Type} (xs : List α) : ∀ n : Nat, (List.replicate n xs).flatten.length = xs.length * n
  | 0 => by simp
  | n + 1 => by
    rw [List.replicate_succ, List.flatten_cons, List.length_append, flat_len xs n, Nat.mul_succ]
    omega
theorem od_mul : OpR X (binaryOp .Mult) (rD X dl mulD) := by
  refine rd_of (opR_or op_rep op_mul) fun x y H Q F s a b d w ra rb e k => ?_
  unfold mulD at e
  split at e
  · rename_i xs n
    split at e
    · rename_i hl
      cases e
      obtain ⟨a1, vs, rfl, h2, h3, h4⟩ := ra
      rw [h4.length] at hl
      exact .inl ⟨a1, n, vs, rfl, rb, w.sub _ _ h2, by omega, by omega, hl.2.2, fun p hp => k _ _ _ (Step.new w hp) (w.new hp) ⟨p, _, rfl, upd_same, by rw [flat_len]; exact hl.2.2, RepL.mono (Step.new w hp).fs _ _ (RepL.flat h4 n.toNat)⟩⟩
    · cases e
  · obtain ⟨i, j, rfl, rfl, hcc, rfl⟩ := iopC_some e
    exact .inr ⟨i, j, ra, rb, (of_decide_eq_true hcc : (-(2 ^ 64) < i ∧ i < 2 ^ 64) ∨ (-(2 ^ 64) < j ∧ j < 2 ^ 64)), k F H _ Step.refl w rfl⟩
mutual
def toP : D → Option PyData
  | .non => some .none
  | .bl b => some (.bool b)
  | .int i => some (.int i)
  | .str x => some (.str x)
  | .tup xs => (toPs xs).map .tuple
  | .lst xs => (toPs xs).map .list
  | .obj _ _ _ => none
  | .drw => none
  | .scr _ => none
  | .dct _ _ => none
  | .dcT _ _ => none
  | .dcN _ _ => none
  | .exm _ _ => none
  | .ptp _ => none
  | .exc _ _ _ => none
def toPs : List D → Option (List PyData)
  | [] => some []
  | d :: ds => (toP d).bind fun p => (toPs ds).map fun ps => p :: ps
end
mutual
theorem dp_of {K : PySem.W.Frag} {mg : Str → Option Value} {F H : Hp} (sub : Same F H) : ∀ (d : D) (v : V) (p : PyData), Rep K mg dl F d v → toP d = some p → Dp K H v p
  | .non, v, p, r, e => by cases e; cases (show v = .non from r); exact .non
  | .bl b, v, p, r, e => by cases e; cases (show v = .bl b from r); exact .bl b
  | .int i, v, p, r, e => by cases e; cases (show v = .int i from r); exact .int i
  | .str x, v, p, r, e => by cases e; cases (show v = .str x from r); exact .str x
  | .obj _ _ _, v, p, r, e => by cases e
  | .drw, v, p, r, e => by cases e
  | .scr _, v, p, r, e => by cases e
  | .dct _ _, v, p, r, e => by cases e
  | .dcT _ _, v, p, r, e => by cases e
  | .dcN _ _, v, p, r, e => by cases e
  | .exm _ _, v, p, r, e => by cases e
  | .ptp _, v, p, r, e => by cases e
  | .exc _ _ _, v, p, r, e => by cases e
  | .tup xs, v, p, r, e => by
    obtain ⟨a, vs, rfl, h2, h3, h4⟩ := r
    unfold toP at e
    cases q : toPs xs with
    | none => rw [q] at e; cases e
    | some ps => rw [q] at e; cases e; exact .tup (Same.seqT sub h2) (dps_of sub xs vs ps h4 q)
  | .lst xs, v, p, r, e => by
    obtain ⟨a, vs, rfl, h2, h3, h4⟩ := r
    unfold toP at e
    cases q : toPs xs with
    | none => rw [q] at e; cases e
    | some ps => rw [q] at e; cases e; exact .lst (SqL.of (sub _ _ h2)) (dps_of sub xs vs ps h4 q)
theorem dps_of {K : PySem.W.Frag} {mg : Str → Option Value} {F H : Hp} (sub : Same F H) : ∀ (ds : List D) (vs : List V) (ps : List PyData), RepL K mg dl F ds vs → toPs ds = some ps → DpAll K H vs ps
  | [], vs, ps, r, e => by cases e; cases (show vs = [] from r); exact .nil
  | d :: ds, vs, ps, r, e => by
    obtain ⟨v, vs', rfl, h1, h2⟩ := r
    unfold toPs at e
    cases q : toP d with
    | none => rw [q] at e; cases e
    | some p =>
      rw [q] at e
      cases q2 : toPs ds with
      | none => rw [q2] at e; cases e
      | some ps' => rw [q2] at e; cases e; exact .cons (dp_of sub d v p h1 q) (dps_of sub ds vs' ps' h2 q2)
end
/-- two data -/
def p2 (g : PyData → PyData → D) : D → D → Option D := fun a b => (toP a).bind fun p => (toP b).bind fun q => if SeqAt.shaped p = true ∧ SeqAt.shaped q = true then some (g p q) else none
theorem p2_some {g : PyData → PyData → D} {a b d : D} (h : p2 g a b = some d) : ∃ p q, toP a = some p ∧ toP b = some q ∧ SeqAt.shaped p = true ∧ SeqAt.shaped q = true ∧ d = g p q := by
  unfold p2 at h
  cases e1 : toP a with
  | none => rw [e1] at h; cases h
  | some p =>
    rw [e1] at h
    cases e2 : toP b with
    | none => rw [e2] at h; cases h
    | some q =>
      rw [e2] at h
      simp only [Option.bind_some] at h
      split at h
      · rename_i hc
        cases h
        exact ⟨p, q, rfl, rfl, hc.1, hc.2, rfl⟩
      · cases h
def eqD := p2 fun p q => .bl (PyData.eqv p q)
def neD := p2 fun p q => .bl (!PyData.eqv p q)
theorem od_eq (hu : X.A.units + 64 < cLine) : OpR X (compareOp .Eq) (rD X dl eqD) := by
  refine rd_of (op_eqD hu) fun x y H Q F s a b d w ra rb e k => ?_
  obtain ⟨p, q, h1, h2, h3, h4, rfl⟩ := p2_some e
  exact ⟨p, q, dp_of w.sub _ _ _ ra h1, dp_of w.sub _ _ _ rb h2, h3, h4, k F H _ Step.refl w rfl⟩
theorem od_ne (hu : X.A.units + 64 < cLine) : OpR X (compareOp .NotEq) (rD X dl neD) := by
  refine rd_of (op_neD hu) fun x y H Q F s a b d w ra rb e k => ?_
  obtain ⟨p, q, h1, h2, h3, h4, rfl⟩ := p2_some e
  exact ⟨p, q, dp_of w.sub _ _ _ ra h1, dp_of w.sub _ _ _ rb h2, h3, h4, k F H _ Step.refl w rfl⟩
def toV : D → Option V
  | .non => some .non
  | .bl b => some (.bl b)
  | .int i => some (.int i)
  | .str x => some (.str x)
  | _ => none
def toVs : List D → Option (List V)
  | [] => some []
  | d :: ds => (toV d).bind fun v => (toVs ds).map fun vs => v :: vs
/-- x in a list or a tuple of plain things; a sign in a text -/
def inB (a : D) : D → Option Bool
  | .str z => match a with
    | .str x => if x.cps.size = 1 then some (decide (x.cps.getD 0 0 ∈ z.cps.toList)) else none
    | _ => none
  | .lst ys => (toV a).bind fun v => (toVs ys).map fun vs => inV v vs
  | .tup ys => (toV a).bind fun v => (toVs ys).map fun vs => inV v vs
  | _ => none
def inD : D → D → Option D := fun a b => (inB a b).map .bl
def ninD : D → D → Option D := fun a b => (inB a b).map fun k => .bl (!k)
end
end EK


namespace EK
open PySem PySem.Spec PyProof.Rows L2
section
variable {X : Cx} {dl : Dr X.w} {W : WX}
theorem rc_of {v0 : Value} {r : List V → Hp → VK → Prop} {g : List D → Option D} (h : CallR X v0 r)
    (w : ∀ xs H Q F s ds d, Wd dl F H s → RepL X.K X.mg dl F ds xs → g ds = some d → (∀ F' H' v, Step dl F H F' H' → Wd dl F' H' s → Rep X.K X.mg dl F' d v → Q v H') → r xs H Q) : CallR X v0 (rCD X dl g) := by
  intro pins s sg H xs us Q I rx q
  obtain ⟨F, st, ds, d, wd, ra, e, k⟩ := q
  exact h pins s sg H xs us Q I rx (w xs H Q F st ds d wd ra e k)
theorem callR_or {v0 : Value} {r r' : List V → Hp → VK → Prop} (h : CallR X v0 r) (h' : CallR X v0 r') : CallR X v0 (fun xs H Q => r xs H Q ∨ r' xs H Q) := by
  intro pins s sg H xs us Q I rx q
  rcases q with q | q
  · exact h pins s sg H xs us Q I rx q
  · exact h' pins s sg H xs us Q I rx q
theorem repL1 {K : PySem.W.Frag} {mg : Str → Option Value} {F : Hp} {d : D} {xs : List V} (h : RepL K mg dl F [d] xs) : ∃ v, xs = [v] ∧ Rep K mg dl F d v := by
  obtain ⟨v, vs', rfl, h1, h2⟩ := h
  cases (show vs' = [] from h2)
  exact ⟨v, rfl, h1⟩
theorem repL2 {K : PySem.W.Frag} {mg : Str → Option Value} {F : Hp} {d e : D} {xs : List V} (h : RepL K mg dl F [d, e] xs) : ∃ v u, xs = [v, u] ∧ Rep K mg dl F d v ∧ Rep K mg dl F e u := by
  obtain ⟨v, vs', rfl, h1, h2⟩ := h
  obtain ⟨u, rfl, h3⟩ := repL1 h2
  exact ⟨v, u, rfl, h1, h3⟩
def len1 : D → Option Nat
  | .lst xs => some xs.length
  | .tup xs => some xs.length
  | .str x => if x.length ≤ sizeLine then some x.length else none
  | .scr xs => some xs.length
  | _ => none
def lenD : List D → Option D
  | [d] => (len1 d).map fun (n : Nat) => D.int (n : Int)
  | _ => none
theorem cd_len : CallR X (.builtin "len") (rCD X dl lenD) := by
  refine rc_of call_len fun xs H Q F s ds d w ra e k => ?_
  unfold lenD at e
  split at e
  · rename_i d0
    obtain ⟨v, rfl, r⟩ := repL1 ra
    have fin : ∀ n : Nat, d = .int n → Q (.int n) H := fun n z => by subst z; exact k F H _ Step.refl w rfl
    cases d0 with
    | lst ys =>
      obtain ⟨a1, vs, rfl, h2, h3, h4⟩ := r
      cases e
      exact ⟨_, ys.length, rfl, .inl ⟨vs, SqL.of (w.sub _ _ h2), h4.length⟩, fin _ rfl⟩
    | tup ys =>
      obtain ⟨a1, vs, rfl, h2, h3, h4⟩ := r
      cases e
      exact ⟨_, ys.length, rfl, .inr ⟨vs, Same.seqT w.sub h2, h4.length⟩, fin _ rfl⟩
    | scr ys =>
      obtain ⟨a1, rfl, h2, h3⟩ := r
      cases e
      exact ⟨_, ys.length, rfl, .inl ⟨_, L2.Same.seq w.sub h2, by simp⟩, fin _ rfl⟩
    | str z =>
      cases (show v = .str z from r)
      have e : (if z.length ≤ sizeLine then some z.length else none).map (fun n : Nat => D.int n) = some d := e
      by_cases hz : z.length ≤ sizeLine
      · rw [if_pos hz] at e
        cases e
        exact ⟨_, z.length, rfl, ⟨hz, rfl⟩, fin _ rfl⟩
      · rw [if_neg hz] at e; cases e
    | _ => cases e
  · cases e
/-- len of an own list -/
def gLenO (i : Nat) : SE := fun G => bnd (gItO i G) fun ds => ret (.int ds.length)
def bools : List D → Option (List Bool)
  | [] => some []
  | .bl b :: ds => (bools ds).map fun bs => b :: bs
  | _ => none
def allD : List D → Option D
  | [.lst ds] => (bools ds).map fun bs => .bl (bs.all id)
  | _ => none
def anyD : List D → Option D
  | [.lst ds] => (bools ds).map fun bs => .bl (bs.any id)
  | _ => none
def tupleD : List D → Option D
  | [.lst ds] => some (.tup ds)
  | [.tup ds] => some (.tup ds)
  | _ => none
def listD : List D → Option D
  | [.lst ds] => some (.lst ds)
  | [.tup ds] => some (.lst ds)
  | _ => none
/-- .. as a list of the def's own -/
def gLO1 (g : List D → Option D) (r : SA) : SA := fun G => bnd (r G) fun ds => ofO ((g ds).bind itemsTL)
def min2D : List D → Option D
  | [.int i, .int j] => some (.int (if j < i then j else i))
  | _ => none
theorem cd_min2 (hc : X.calm = true) : CallR X (.builtin "min") (rCD X dl min2D) := by
  refine rc_of (call_min2 hc) fun xs H Q F s ds d w ra e k => ?_
  unfold min2D at e
  split at e
  · cases e
    obtain ⟨v, u, rfl, r1, r2⟩ := repL2 ra
    exact ⟨_, _, by rw [show v = .int _ from r1, show u = .int _ from r2], k F H _ Step.refl w rfl⟩
  · cases e
def ixD : D → D → Option D
  | .lst xs, .int i => atI xs i
  | .tup xs, .int i => atI xs i
  | .str x, .int i => if x.length ≤ sizeLine then (atI x.cps.toList i).map fun c => .str ⟨#[c]⟩ else none
  | _, _ => none
theorem atI_rep {K : PySem.W.Frag} {mg : Str → Option Value} {F : Hp} {ds : List D} {vs : List V} {i : Int} {d : D} (h : RepL K mg dl F ds vs) (e : atI ds i = some d) : ∃ v, atI vs i = some v ∧ Rep K mg dl F d v := by
  unfold atI at e ⊢
  rw [h.length] at e
  cases q : ixN vs.length i with
  | none => rw [q] at e; cases e
  | some j =>
    rw [q] at e
    exact h.get e
theorem ix_seqD : IxR X (rD X dl ixD) := by
  intro value slice pins s sg H x y v u Q I rx ry q hsub
  obtain ⟨F, st, a, b, d, w, ra, rb, e, k⟩ := q
  refine ix_seq value slice pins s sg H x y v u Q I rx ry ?_ hsub
  unfold ixD at e
  split at e
  · obtain ⟨a1, vs, rfl, h2, h3, h4⟩ := ra
    obtain ⟨v1, e1, r1⟩ := atI_rep h4 e
    exact .inl ⟨a1, vs, _, v1, rfl, rb, SqL.of (w.sub _ _ h2), e1, k F H _ Step.refl w r1⟩
  · obtain ⟨a1, vs, rfl, h2, h3, h4⟩ := ra
    obtain ⟨v1, e1, r1⟩ := atI_rep h4 e
    exact .inr (.inl ⟨a1, vs, _, v1, rfl, rb, Same.seqT w.sub h2, e1, k F H _ Step.refl w r1⟩)
  · rename_i z i
    split at e
    · rename_i hz
      cases q : atI z.cps.toList i with
      | none => rw [q] at e; cases e
      | some c =>
        rw [q] at e
        cases e
        exact .inr (.inr ⟨z, i, c, ra, rb, hz, q, k F H _ Step.refl w rfl⟩)
    · cases e
  · cases e
theorem de_sub {a b : Expr} {fa fb : SE} {pos : Pos} (ha : DE X dl W a fa) (hb : DE X dl W b fb) (hs : PlainIx b := by exact fun _ _ => rfl) : DE X dl W (.Subscript a b pos) (g2 ixD fa fb) := de_ix ix_seqD ha hb hs
abbrev SO := Sls → M (Option Int)
def oNone : SO := fun _ => ret none
def asI : D → Option (Option Int)
  | .int i => some (some i)
  | _ => none
def oSome (f : SE) : SO := fun G => bnd (f G) fun d => ofO (asI d)
section
variable (X dl W)
def tDO' (f : SO) : TO := fun sg H Q => ∃ F, tGF X dl W F f (fun o _ H' => Q o H') sg H
abbrev DOp (e : Option Expr) (f : SO) : Prop := PO X e (tDO' X dl W f)
end
theorem PO.of {e : Option Expr} {t t' : TO} (h : PO X e t) (w : ∀ sg H Q, t' sg H Q → t sg H Q) : PO X e t' := ⟨fun pins s sg H Q I q => h.run pins s sg H Q I (w _ _ _ q)⟩
def cutL {α : Type} (xs : List α) (lo hi : Option Int) : List α := (xs.drop (HT.sIx xs.length 0 lo)).take (HT.sIx xs.length xs.length hi - HT.sIx xs.length 0 lo)
def sliceD (lo hi : Option Int) : D → Option D
  | .lst xs => some (.lst (cutL xs lo hi))
  | .tup xs => some (.tup (cutL xs lo hi))
  | _ => none
def gSl (f : SE) (lo hi : SO) : SE := fun G => bnd (f G) fun d => bnd (lo G) fun l => bnd (hi G) fun u => ofO (sliceD l u d)
end
end EK


namespace EK
open PySem PySem.Spec PyProof.Rows L2
/-- a class of the text -/
def ClsF (K : PySem.W.Frag) (mg : Str → Option Value) (c : Str) : Prop := ∃ C, mg c = some (.ref C) ∧ Cls K C
def FldF (K : PySem.W.Frag) (mg : Str → Option Value) (c f : Str) : Prop := ∃ C, mg c = some (.ref C) ∧ Cls K C ∧ NoAttr K C f
section
variable {X : Cx} {dl : Dr X.w} {W : WX} {pos apos p : Pos} {e : Expr} {fe : SE}
/-- of the class c -/
def isC (c : Str) : D → Bool
  | .obj c' _ _ => decide (c' = c)
  | _ => false
theorem isC_some {c : Str} {d : D} (h : isC c d = true) : ∃ ns xs, d = .obj c ns xs := by
  cases d with
  | obj c' ns xs => exact ⟨ns, xs, by rw [of_decide_eq_true h]⟩
  | _ => cases h
def fldR (c f : Str) : D → Option D
  | .obj c' ns xs => if c' = c then (ns.zip xs).lookup f else none
  | _ => none
def fldD (c f : Str) (d : D) : Option D := (fldR c f d).map unp
def gFld (c f : Str) (fe : SE) : SE := fun G => bnd (fe G) fun d => ofO (fldD c f d)
structure PropF (P : Program) (w : World) (K : PySem.W.Frag) (mg : Str → Option Value) (base : Heap) (c f : Str) (k : Nat) (m : List D → M D) : Prop where
  ex : ∃ (C p g : Addr) (fd : FuncData) (ps : List Str), mg c = some (.ref C) ∧ Cls K C ∧ PropOf K C f p g ∧ ps.length = 1 ∧ Binds K fd ps [] ∧ FnOk P w K mg base (L2.CX P w) k g fd ps (spD K mg w 1 m)
def gProp (c : Str) (m : List D → M D) (fe : SE) : SE := fun G => bnd (fe G) fun d => if isC c d then noErr (m [d]) else fail
theorem obj_at {F H : Hp} {c : Str} {C : Addr} {d : D} {v : V} (h1 : X.mg c = some (.ref C)) (sub : Same F H) (hc : isC c d = true) (r : Rep X.K X.mg dl F d v) : ∃ a dx fs, v = .ref a ∧ H a = some (.ins C dx fs) ∧ ∃ ns xs vs, d = .obj c ns xs ∧ fs = ns.zip vs ∧ ns.length = vs.length := by
  obtain ⟨ns, xs, rfl⟩ := isC_some hc
  obtain ⟨a, dx, C', vs, rfl, m2, m3, m4, m5, m6⟩ := r
  rw [h1] at m2
  cases m2
  exact ⟨a, dx, _, rfl, sub _ _ m3, ns, xs, vs, rfl, rfl, m5⟩
structure MethF (P : Program) (w : World) (K : PySem.W.Frag) (mg : Str → Option Value) (base : Heap) (c m : Str) (k n : Nat) (fm : List D → M D) : Prop where
  ex : ∃ (C g : Addr) (fd : FuncData) (ps : List Str), mg c = some (.ref C) ∧ Cls K C ∧ Meth K C m g ∧ ps.length = n + 1 ∧ Binds K fd ps [] ∧ FnOk P w K mg base (L2.CX P w) k g fd ps (spD K mg w (n + 1) fm)
/-- the class's own name is no attribute of the object -/
def noFld (m : Str) : D → Bool
  | .obj _ ns _ => !ns.contains m
  | _ => false
def gMeth (c m : Str) (n : Nat) (fm : List D → M D) (fe : SE) (ra : SA) : SE := fun G => bnd (fe G) fun d => if isC c d && noFld m d then bnd (ra G) fun ds => if ds.length = n then fm (d :: ds) else fail else fail
def gMeth0 (c m : Str) (fm : List D → M D) (fe : SE) : SE := fun G => bnd (fe G) fun d => if isC c d && noFld m d then fm [d] else fail
def tyN : D → Option String
  | .non => some "NoneType"
  | .bl _ => some "bool"
  | .int _ => some "int"
  | .str _ => some "str"
  | .tup _ => some "tuple"
  | .lst _ => some "list"
  | .scr _ => some "list"
  | .drw => some "dict"
  | .dct _ _ => some "dict"
  | .dcT _ _ => none
  | .dcN _ _ => none
  | .exm _ _ => none
  | .ptp _ => none
  | .exc _ _ _ => none
  | .obj _ _ _ => none
theorem tyx_of {F H : Hp} {s : DS} {d : D} {v : V} {t : String} (w : Wd dl F H s) (r : Rep X.K X.mg dl F d v) (e : tyN d = some t) : TyX X.K H v (.type t) := by
  cases d with
  | non => cases e; cases (show v = .non from r); exact .base .non
  | bl b => cases e; cases (show v = .bl b from r); exact .base (.bl b)
  | int i => cases e; cases (show v = .int i from r); exact .base (.int i)
  | str x => cases e; cases (show v = .str x from r); exact .base (.str x)
  | tup xs =>
    cases e
    obtain ⟨a1, vs, rfl, h2, h3, h4⟩ := r
    rcases Same.seqT w.sub h2 with (h | ⟨o, h⟩) | ⟨o, its, n, hk, hc, _⟩
    · exact .base (.tup h)
    · exact .fTuple h
    · exact .kTuple hk hc
  | lst xs =>
    cases e
    obtain ⟨a1, vs, rfl, h2, h3, h4⟩ := r
    exact .base (.lst (w.sub _ _ h2))
  | scr xs =>
    cases e
    obtain ⟨a1, rfl, h2, h3⟩ := r
    rcases L2.Same.seq w.sub h2 with (h | ⟨o, h⟩) | ⟨o, its, n, hk, hc, _⟩
    · exact .base (.lst h)
    · exact .base (.frz h)
    · exact .kList hk hc
  | drw => cases e; cases (show v = .ref dl.a from r); exact .base (.dK w.dr.1)
  | obj _ _ _ => cases e
  | dct ks xs =>
    cases e
    obtain ⟨a1, o, vs, rfl, h2, _⟩ := r
    exact .fDict (w.sub _ _ h2)
  | dcT _ _ => cases e
  | dcN _ _ => cases e
  | exm _ _ => cases e
  | ptp _ => cases e
  | exc _ _ _ => cases e
/-- what a class of the text says to isinstance -/
structure IsiF (K : PySem.W.Frag) (mg : Str → Option Value) (c : Str) (T : Value) (b : Bool) : Prop where
  ex : ∃ C, mg c = some (.ref C) ∧ Cls K C ∧ PySem.W.findIn K (.ref C) "__class__" = some (some (.builtin "object.__class__")) ∧ PySem.W.specialIn K (.builtin "object.__class__") "__get__" = some (some (.builtin "getset_descriptor.__get__")) ∧
    PySem.W.takesIn K (.builtin "object.__class__") = some true ∧ PySem.W.mroIn K C (.type "object") = some true ∧ PySem.W.kitOne K (.ref C) T = some b
theorem tyx_obj {F H : Hp} {s : DS} {c : Str} {d : D} {v : V} {T : Value} {b : Bool} (w : Wd dl F H s) (h : IsiF X.K X.mg c T b) (hc : isC c d = true) (r : Rep X.K X.mg dl F d v) : ∃ C, TyX X.K H v (.ref C) ∧ PySem.W.kitOne X.K (.ref C) T = some b := by
  obtain ⟨C, h1, h2, h3, h4, h5, h6, h7⟩ := h.ex
  obtain ⟨a, dx, fs, rfl, ha, _⟩ := obj_at h1 w.sub hc r
  exact ⟨C, .base (.ins ha h2 h3 h4 h5 h6), h7⟩
/-- isinstance(e, T): by the classes that are known (each with its answer), and by the type of plain data -/
def isiD (cs : List (Str × Bool)) (ans : String → Option Bool) : D → Option D
  | .obj c _ _ => (cs.lookup c).map .bl
  | d => (tyN d).bind fun t => (ans t).map .bl
end
end EK


namespace PySem.W
open PySem PySem.Calls PyProof.Rows
section
variable {prog : Program} {w : World} {A : Around} {E : Value → Shared → Prop} {s : Shared} {K : Frag} {x C L f : Addr} {h₀ : Heap} {m : Str → Option Value} {ox : Obj} {od : Option Obj} {b tb : Value}
end
end PySem.W

namespace EK
open PySem PySem.Spec PyProof.Rows L2
section
variable {mg : Str → Option Value} {K : PySem.W.Frag} {wd : World} {dl dl' : Dr wd} {W : XK'} {F H : Hp}
end
/-- what __init__ promises: the attributes of the new instance of c -/
def spI (K : PySem.W.Frag) (mg : Str → Option Value) (w : World) (c : Str) (n : Nat) (m : List D → M (List Str × List D)) : Sp := fun vs H Q E => ∃ (dl : Dr w) (F H1 : Hp) (ds : List D) (ws : List V) (s : DS) (C : Addr),
  vs = .ref dl.o :: ws ∧ ws.length = n ∧ mg c = some (.ref C) ∧ Wd dl F H1 s ∧ H1 dl.o = none ∧ H1 dl.ox = none ∧ dl.ox ≠ dl.o ∧ H = upd (upd H1 dl.ox (.own dl.o)) dl.o (.ins C dl.ox []) ∧ RepL K mg dl F ds ws ∧
    Go mg K dl E F H1 (m ds s) fun r _ F' H' => ∀ us, H' dl.o = some (.ins C dl.ox (r.1.zip us)) → H' dl.ox = some (.own dl.o) → F' dl.o = none → F' dl.ox = none → r.1.length = us.length → RepL K mg dl F' r.2 us → Q .non H'
def startI (c : Str) (n : Nat) (ds : List D) : Sls := some (.ini c [] []) :: startG (n - 1) ds
def runI (c : Str) (n : Nat) (b : SS) (ds : List D) : M (List Str × List D) := bnd (b (startI c n ds)) fun o => match o with
  | .next G => (match (G[0]? : Option (Option Sl)) with
    | some (some (.ini c' ns xs)) => if c' = c then ret (ns, xs) else fail
    | _ => fail)
  | _ => fail
section
variable {X : Cx} {dl : Dr X.w} {W : WX} {pos pos' p2 : Pos} {F0 H0 F H : Hp} {E : Ends} {e : Expr} {f : SE}
def sFldI (nm : Str) (f : SE) : SS := fun G => match (G[0]? : Option (Option Sl)) with
  | some (some (.ini c ns xs)) => bnd (f G) fun d => if ns.contains nm = false ∧ ns.length < 900 then ret (.next (G.set 0 (some (.ini c (ns ++ [nm]) (xs ++ [d]))))) else fail
  | _ => fail
end
structure MkF (P : Program) (w : World) (K : PySem.W.Frag) (mg : Str → Option Value) (base : Heap) (c : Str) (k n : Nat) (m : List D → M (List Str × List D)) : Prop where
  ex : ∃ (C g : Addr) (fd : FuncData) (ps : List Str), mg c = some (.ref C) ∧ Mk K C g ∧ ps.length = n + 1 ∧ Binds K fd ps [] ∧ FnOk P w K mg base (L2.CX P w) k g fd ps (spI K mg w c n m)
section
variable {X : Cx} {dl : Dr X.w} {W : WX} {pos p : Pos} {e : Expr} {es : List Expr} {ra : SA}
def gMake (c : Str) (n : Nat) (m : List D → M (List Str × List D)) (ra : SA) : SE := fun G => bnd (ra G) fun ds => if ds.length = n then bnd (m ds) fun r => ret (.obj c r.1 r.2) else fail
end
end EK


namespace EK
open PySem PySem.Spec PyProof.Rows L2
section
variable (X : Cx) (dl : Dr X.w)
def rDM (g : D → D → M D) : R2 := fun x y H Q => ∃ (F : Hp) (s : DS) (a b : D), Wd dl F H s ∧ Rep X.K X.mg dl F a x ∧ Rep X.K X.mg dl F b y ∧ Go X.mg X.K dl (fun _ _ _ => False) F H (g a b s) fun d _ F' H' => ∀ v, Rep X.K X.mg dl F' d v → Q v H'
def rUM (g : D → M D) : V → Hp → VK → Prop := fun x H Q => ∃ (F : Hp) (s : DS) (a : D), Wd dl F H s ∧ Rep X.K X.mg dl F a x ∧ Go X.mg X.K dl (fun _ _ _ => False) F H (g a s) fun d _ F' H' => ∀ v, Rep X.K X.mg dl F' d v → Q v H'
def rCM (g : List D → M D) : List V → Hp → VK → Prop := fun xs H Q => ∃ (F : Hp) (s : DS) (ds : List D), Wd dl F H s ∧ RepL X.K X.mg dl F ds xs ∧ Go X.mg X.K dl (fun _ _ _ => False) F H (g ds s) fun d _ F' H' => ∀ v, Rep X.K X.mg dl F' d v → Q v H'
end
def g2M (g : D → D → M D) (fa fb : SE) : SE := fun G => bnd (fa G) fun a => bnd (fb G) fun b => noErr (g a b)
def g1M (g : D → M D) (fa : SE) : SE := fun G => bnd (fa G) fun a => noErr (g a)
def gCM (g : List D → M D) (fa : SA) : SE := fun G => bnd (fa G) fun ds => noErr (g ds)
section
variable {X : Cx} {dl : Dr X.w} {W : WX} {a b e : Expr} {fa fb : SE} {pos p : Pos} {g g' : D → D → M D}
/-- the def of the class c for the special name m, run at level k: with n arguments behind self -/
structure OpF (P : Program) (w : World) (K : PySem.W.Frag) (mg : Str → Option Value) (base : Heap) (c m : Str) (k n : Nat) (fm : List D → M D) : Prop where
  ex : ∃ (C g : Addr) (fd : FuncData) (ps : List Str), mg c = some (.ref C) ∧ Cls K C ∧ PySem.W.findIn K (.ref C) m = some (some (.ref g)) ∧ PySem.W.isFn K (.ref g) = true ∧ PySem.W.selfFirst K C = true ∧ ps.length = n + 1 ∧ Binds K fd ps [] ∧ FnOk P w K mg base (L2.CX P w) k g fd ps (spD K mg w (n + 1) fm)
def both (c : Str) (x y : D) : Bool := isC c x && isC c y
def opC (c : Str) (fm : List D → M D) : D → D → M D := fun x y => if both c x y then fm [x, y] else fail
/-- the negation of what an == says -/
def negM (m : M D) : M D := bnd m fun d => ofO ((asB d).map fun k => .bl (!k))
/-- what != asks of the class besides -/
def NeF (K : PySem.W.Frag) (mg : Str → Option Value) (c : Str) : Prop := ∃ C, mg c = some (.ref C) ∧ PySem.W.findIn K (.ref C) "__ne__" = some (some (.builtin "object.__ne__")) ∧ PySem.W.subIn K (.ref C) (.type "object") = some true
/-- ~x -/
def unC (c : Str) (fm : List D → M D) : D → M D := fun x => if isC c x then fm [x] else fail
end
end EK


namespace EK
open PySem PySem.Spec PyProof.Rows L2
section
variable {prog : Program} {w : World} {A : Around} {E : Value → Shared → Prop} {s : Shared}
end

def pD (d : D) : PyData := (toP d).getD .none
def tupNE : PyData → Bool
  | .tuple (_ :: _) => true
  | _ => false
def notTN : PyData → Bool
  | .tuple _ => false
  | .none => false
  | _ => true
/-- data that can be put in order -/
def canSort (ds : List D) : Bool := ds.all (fun d => (toP d).isSome) && (ds.all (fun a => ds.all fun b => PySem.W.alike (pD a) (pD b)) && ((ds.all (fun d => tupNE (pD d)) || ds.all (fun d => notTN (pD d))) && ds.all fun d => decide ((pD d).depth ≤ 60)))
def sortL (ds : List D) : List D := ds.mergeSort (PySem.W.dataLe false pD)
def sortedD : List D → Option D
  | [d] => (itemsTL d).bind fun ds => if canSort ds then some (.lst (sortL ds)) else none
  | _ => none
section
variable {X : Cx} {dl : Dr X.w} {W : WX}
def isNone : PyData → Bool
  | .none => true
  | _ => false
def ordD (g : PyData → PyData → Bool) : D → D → Option D := fun a b => (toP a).bind fun p => (toP b).bind fun q => if (PySem.W.alike p q && (decide (p.depth ≤ 60) && !isNone p)) = true then some (.bl (g p q)) else none
def ltP := ordD fun p q => PySem.W.dataLt p q
def gtP := ordD fun p q => PySem.W.dataLt q p
def leP := ordD fun p q => !PySem.W.dataLt q p
def geP := ordD fun p q => !PySem.W.dataLt p q
end
end EK


namespace EK
open PySem PySem.Spec PyProof.Rows L2
/-- the texts that d holds -/
def txt : D → Option Str
  | .str x => some x
  | _ => none
def txts (d : D) : Option (List Str) := (itemsTL d).bind fun ds => ds.mapM txt
def setD (g : List Str → Option D) (d : D) : Option D := (txts d).bind fun xs => if xs.length + 1 < 4096 then g (dedupK xs) else none
def lenS (xs : List Str) : Option D := some (.int xs.length)
def sortS (xs : List Str) : List Str := xs.mergeSort (PySem.W.dataLe false PyData.str)
def sortedS (xs : List Str) : Option D := some (.lst ((sortS xs).map D.str))

section
variable {X : Cx} {dl : Dr X.w} {W : WX}
variable (X dl) in
def SetCall (f : String) (g : List Str → Option D) : Prop := ∀ (pins : List (Addr × Obj)) (s : Shared) (sg : L2.St) (H : Hp) (ks : List Str) (a : Addr) (Q : VK), Inv X pins sg H s → SetG (PySem.strKind X.prog X.w) s.heap a ks → ks.length < 4096 →
  (∃ (F : Hp) (st : DS) (d : D), Wd dl F H st ∧ g ks = some d ∧ ∀ F' H' v, Step dl F H F' H' → Wd dl F' H' st → Rep X.K X.mg dl F' d v → Q v H') → wpAny (model X.prog X.w) X.A (call (.builtin f) [.ref a]) (EP X pins sg Q) X.xe s
end
end EK


namespace EK
open PySem PySem.Spec PyProof.Rows L2
/-- the slots that never change -/
def fzS : Option Sl → Option Sl
  | some (.fz d) => some (.fz d)
  | _ => none
def fzG (G : Sls) : Sls := G.map fzS
theorem fzG_some {G : Sls} {i : Nat} {x : Sl} (h : (fzG G)[i]? = some (some x)) : ∃ d, x = .fz d ∧ G[i]? = some (some (.fz d)) := by
  unfold fzG at h
  rw [List.getElem?_map] at h
  cases e : G[i]? with
  | none => rw [e] at h; cases h
  | some o =>
    rw [e] at h
    cases o with
    | none => simp [fzS] at h
    | some s =>
      cases s with
      | fz d => simp [fzS] at h; exact ⟨d, h.symm, rfl⟩
      | _ => simp [fzS] at h
section
variable {K : PySem.W.Frag} {mg : Str → Option Value} {wd : World} {dl : Dr wd} {F0 H0 F H F' H' : Hp} {sg : L2.St} {G : Sls}
theorem Sim.fz (S : Sim K mg dl F0 H0 F H sg G) (e : Same F F') (st : Step dl F0 H0 F' H') : Sim K mg dl F0 H0 F' H' sg (fzG G) := by
  refine ⟨by rw [fzG, List.length_map]; exact S.len, fun i s h => ?_, fun i j s t h1 h2 o1 => ?_, st, Trs.no fun i t e => by
    obtain ⟨d, z, _⟩ := fzG_some e
    cases z⟩
  · obtain ⟨d, rfl, h1⟩ := fzG_some h
    obtain ⟨v, h2, h3⟩ := S.sl i _ h1
    exact ⟨v, h2, Rep.mono e d v h3⟩
  · obtain ⟨d, rfl, _⟩ := fzG_some h1
    cases o1
end
/-- the items of the second clause's source for each of the first's -/
def lc2M (vs1 : List Nat) (f : SG) (u : ST) (it1 : SA) (f1 : SG) (u1 : ST) (h : SE) (G : Sls) : List D → M (List D)
  | [] => ret []
  | d :: ds => bnd (ofO (f G d)) fun G' => bnd (u G') fun k =>
      if k then bnd (it1 G') fun es => bnd (ofO (if es.length ≤ 1000 then some () else none)) fun _ => bnd (lcM f1 u1 h (wipeG (fzG G') vs1) es) fun r => bnd (lc2M vs1 f u it1 f1 u1 h G ds) fun r' => ret (r ++ r')
      else lc2M vs1 f u it1 f1 u1 h G ds
def gLc2 (vs vs1 : List Nat) (it : SA) (f : SG) (u : ST) (it1 : SA) (f1 : SG) (u1 : ST) (h : SE) : SA := fun G => bnd (it G) fun ds => bnd (ofO (if ds.length ≤ 1000 then some () else none)) fun _ => noErr (lc2M vs1 f u it1 f1 u1 h (wipeG G vs) ds)
section
variable {X : Cx} {dl : Dr X.w} {W : WX}
end
end EK


namespace EK
open PySem PySem.Spec PyProof.Rows L2
section
variable {X : Cx} {dl : Dr X.w} {W : WX} {e : Expr} {fe : SE} {p pos : Pos}
structure IsiT (K : PySem.W.Frag) (mg : Str → Option Value) (c : Str) (us : List Value) (b : Bool) : Prop where
  ex : ∃ C, mg c = some (.ref C) ∧ Cls K C ∧ PySem.W.findIn K (.ref C) "__class__" = some (some (.builtin "object.__class__")) ∧ PySem.W.specialIn K (.builtin "object.__class__") "__get__" = some (some (.builtin "getset_descriptor.__get__")) ∧
    PySem.W.takesIn K (.builtin "object.__class__") = some true ∧ PySem.W.mroIn K C (.type "object") = some true ∧ PySem.W.kitAny K (.ref C) us = some b
end
end EK


namespace EK
open PySem PySem.Spec PyProof.Rows L2
section
variable {X : Cx} {dl : Dr X.w} {W : WX} {elt tg iter tg1 iter1 : Expr} {ifs ifs1 : List Expr} {scope : Scope} {own : List (Str × Nat)} {vs1 : List Nat} {it it1 : SA} {is is1 : List Nat} {f f1 : SG} {u u1 : ST} {h : SE} {pos py spos : Pos} {y : Str}
end
end EK


namespace EK
open PySem PySem.Spec PyProof.Rows L2
def ownAt (G : Sls) (i : Nat) : Option (List D) := match G[i]? with
  | some (some (.own ds)) => some ds
  | _ => none
/-- x[e], x an own list -/
def ixO (ds : List D) : D → Option D
  | .int k => atI ds k
  | _ => none
def gIxO (i : Nat) (f : SE) : SE := fun G => bnd (ofO (ownAt G i)) fun ds => bnd (f G) fun j => ofO (ixO ds j)
/-- x[e1] = e2 -/
def setO (ds : List D) (d : D) : D → Option (List D)
  | .int k => (ixN ds.length k).map fun n => ds.set n d
  | _ => none
def sSetO (i : Nat) (fj fe : SE) : SS := fun G => bnd (ofO (ownAt G i)) fun ds => bnd (fe G) fun d => bnd (fj G) fun j => bnd (ofO (setO ds d j)) fun ds' => ret (.next (G.set i (some (.own ds'))))
section
variable {X : Cx} {dl : Dr X.w} {W : WX} {e b : Expr} {f fe : SE} {pos p p' : Pos} {x : Str}
end
end EK


namespace EK
open PySem PySem.Spec PyProof.Rows L2
section
variable (X : Cx) (dl : Dr X.w) (W : WX)
/-- a fresh dict at a, not among what never changes -/
def NewX (H : Hp) (k : OK) (ds : List D) (F' H' : Hp) (a : Addr) : Prop := H a = none ∧ F' a = none ∧ ∃ vs, H' a = some (k.ho vs) ∧ k.len = vs.length ∧ (k.len ≤ 1000 ∧ k.nd) ∧ RepL X.K X.mg dl F' ds vs
/-- what a slot may hold behind an evaluation: a value that never changes, or a new list of one's own -/
def NewT (H : Hp) (t : T) (F' H' : Hp) (v : V) : Prop := ∃ as, TR X.K X.mg dl F' H' t v as ∧ as.Nodup ∧ ∀ a ∈ as, H a = none ∧ F' a = none
def NewSl (H F' H' : Hp) : Sl → V → Prop
  | .fz d, v => Rep X.K X.mg dl F' d v
  | .own ds, v => ∃ a, v = .ref a ∧ NewL X dl H ds F' H' a
  | .ini _ _ _, _ => False
  | .ownX k ds, v => ∃ a, v = .ref a ∧ NewX X dl H k ds F' H' a
  | .tree t, v => NewT X dl H t F' H' v
def tSl (f : Sls → M Sl) : TE := fun sg H Q => ∃ F, tGF X dl W F f (fun sl F' H' => ∀ v, NewSl X dl H F' H' sl v → Q v H') sg H
abbrev DES (e : Expr) (f : Sls → M Sl) : Prop := PE X e (tSl X dl W f)
end
def slF (f : SE) : Sls → M Sl := fun G => bnd (f G) fun d => ret (.fz d)
def slO (f : SA) : Sls → M Sl := fun G => bnd (f G) fun ds => ret (.own ds)
def sPar (i j : Nat) (f g : Sls → M Sl) : SS := fun G => bnd (f G) fun a => bnd (g G) fun b => ret (.next ((G.set i (some a)).set j (some b)))
def sPar3 (i j l : Nat) (f g h : Sls → M Sl) : SS := fun G => bnd (f G) fun a => bnd (g G) fun b => bnd (h G) fun c => ret (.next (((G.set i (some a)).set j (some b)).set l (some c)))
section
variable {X : Cx} {dl : Dr X.w} {W : WX} {e : Expr} {F0 H0 F H F1 H1 : Hp} {sg : L2.St} {G : Sls} {i : Nat} {sl : Sl} {v : V} {pos : Pos}
theorem des_fz {f : SE} (h : DE X dl W e f) : DES X dl W e (slF f) := by
  refine PE.of h fun sg H Q q => ?_
  obtain ⟨F, F0, H0, G, s, w, S, g⟩ := q
  refine ⟨F, F0, H0, G, s, w, S, (Go.at Step.refl g).imp fun d s1 F1 H1 st1 w1 g1 v rv => ?_⟩
  exact g1 F1 H1 st1 w1 v rv
section
variable {F0 H0 F H F1 H1 : Hp}
theorem Sim.putTree {sg : L2.St} {G : Sls} {s : DS} {t : T} {v : V} {i : Nat} (S : Sim X.K X.mg dl F0 H0 F H sg G) (w : Wd dl F H s) (st : Step dl F H F1 H1) (h : NewT X dl H t F1 H1 v) : Sim X.K X.mg dl F0 H0 F1 H1 (sg.set i (some v)) (G.set i (some (.tree t))) := by
  have S1 := S.step st
  obtain ⟨as, h1, h2, h3⟩ := h
  have old : ∀ (j : Nat) (u : Sl), (G.set i (some (.tree t)))[j]? = some (some u) → (i = j ∧ u = .tree t ∧ i < G.length) ∨ (i ≠ j ∧ G[j]? = some (some u)) := fun j u e => by
    by_cases z : i = j
    · subst z
      by_cases q : i < G.length
      · rw [List.getElem?_set_self q] at e
        cases e
        exact .inl ⟨rfl, rfl, q⟩
      · rw [List.getElem?_set] at e
        simp [q] at e
    · rw [List.getElem?_set_ne z] at e
      exact .inr ⟨z, e⟩
  refine ⟨by rw [List.length_set, List.length_set]; exact S.len, fun j u ej => ?_, fun j k u u' e1 e2 o1 o2 e3 => ?_, S1.st, ?_⟩
  · rcases old j u ej with ⟨rfl, rfl, q⟩ | ⟨z, z2⟩
    · exact ⟨v, List.getElem?_set_self (by rw [← S.len]; exact q), trivial⟩
    · rw [List.getElem?_set_ne z]
      exact S1.sl j u z2
  · rcases old j u e1 with ⟨rfl, rfl, q⟩ | ⟨z, z2⟩
    · cases o1
    rcases old k u' e2 with ⟨rfl, rfl, q⟩ | ⟨y, y2⟩
    · cases o2
    rw [List.getElem?_set_ne z, List.getElem?_set_ne y] at e3
    exact S.dis j k u u' z2 y2 o1 o2 e3
  · obtain ⟨fp, T1⟩ := S1.tr
    refine ⟨fun j => if j = i then as else fp j, fun j u ej => ?_, fun j k u u' e1 e2 hjk a ha => ?_, fun j k u s' a e1 e2 o es => ?_⟩
    · rcases old j _ ej with ⟨rfl, q, q2⟩ | ⟨z, z2⟩
      · cases q
        simp only [if_true]
        exact ⟨v, List.getElem?_set_self (by rw [← S.len]; exact q2), h1, h2, fun a ha => ⟨(h3 a ha).2, S.st.al a (h3 a ha).1, w.na (h3 a ha).1⟩⟩
      · rw [List.getElem?_set_ne z, if_neg (Ne.symm z)]
        exact T1.at_ j u z2
    · rcases old j _ e1 with ⟨rfl, q, q2⟩ | ⟨z, z2⟩
      · simp only [if_true] at ha
        rcases old k _ e2 with ⟨rfl, q, q2⟩ | ⟨y, y2⟩
        · exact absurd rfl hjk
        · rw [if_neg (Ne.symm y)]
          exact S.notTr st (h3 a ha).1 fp T1 k u' y2
      · rw [if_neg (Ne.symm z)] at ha
        rcases old k _ e2 with ⟨rfl, q, q2⟩ | ⟨y, y2⟩
        · simp only [if_true]
          exact fun q => S.notTr st (h3 a q).1 fp T1 j u z2 ha
        · rw [if_neg (Ne.symm y)]
          exact T1.dj j k u u' z2 y2 hjk a ha
    · rcases old k _ e2 with ⟨rfl, q, q2⟩ | ⟨y, y2⟩
      · subst q; cases o
      rw [List.getElem?_set_ne y] at es
      rcases old j _ e1 with ⟨rfl, q, q2⟩ | ⟨z, z2⟩
      · simp only [if_true]
        exact fun q => S.notAt (F1 := F1) (H1 := H1) (h3 a q).1 k s' y2 o es
      · rw [if_neg (Ne.symm z)]
        exact T1.nx j k u s' a z2 y2 o es
end
/-- into a slot, from the heap before -/
theorem Sim.putNew {s : DS} (S : Sim X.K X.mg dl F0 H0 F H sg G) (w : Wd dl F H s) (st : Step dl F H F1 H1) (h : NewSl X dl H F1 H1 sl v) : Sim X.K X.mg dl F0 H0 F1 H1 (sg.set i (some v)) (G.set i (some sl)) := by
  cases sl with
  | fz d => exact (S.step st).put h
  | own ds =>
    obtain ⟨a, rfl, n1, n2, vs, h1, h2, h3⟩ := h
    exact (S.step st).putOwn (fun j t _ ej o => S.notAt (F1 := F1) (H1 := H1) n1 j t ej o) (S.notTr st n1) h1 n2 (S.st.al a n1) (w.na n1) h2 h3
  | ini _ _ _ => exact h.elim
  | ownX k ds =>
    obtain ⟨a, rfl, n1, n2, vs, h1, h2, h3, h4⟩ := h
    exact (S.step st).putX (fun j t _ ej o => S.notAt (F1 := F1) (H1 := H1) n1 j t ej o) (S.notTr st n1) h1 n2 (S.st.al a n1) (w.na n1) h2 h3 h4
  | tree t => exact S.putTree w st h
theorem ds_par (i j : Nat) {x y : Str} {a b : Expr} {f g : Sls → M Sl} {px py pt : Pos} {kt k2 : Nat} {pt2 : Pos} (hc : X.calm = true) (hN : X.N.Nodup) (ha : DES X dl W a f) (hb : DES X dl W b g)
    (hi : X.N[i]? = some x := by rfl) (hj : X.N[j]? = some y := by rfl) (hij : i ≠ j := by decide)
    (hx : X.env.scope.names.lookup x = some .local := by rfl) (hy : X.env.scope.names.lookup y = some .local := by rfl)
    (hw : swappedStores [.Tuple [.Name x px, .Name y py] kt pt] (.Tuple [a, b] k2 pt2) X.env = pure (some [x, y]) := by rfl)
    (hs : swapsWithSole [.Tuple [.Name x px, .Name y py] kt pt] (.Tuple [a, b] k2 pt2) pos.line X.env = pure false := by rfl)
    (hs1 : starEach [a, b] X.env = (false, eval a X.env) :: starEach [b] X.env := by rfl) (hs2 : starEach [b] X.env = (false, eval b X.env) :: starEach [] X.env := by rfl) :
    DSt X dl W (.Assign [.Tuple [.Name x px, .Name y py] kt pt] (.Tuple [a, b] k2 pt2) pos) (sPar i j f g) := by
  refine PS.of (ps_par hc hN hi hj hij hx hy (pa_cons ha (pa_cons hb pa_nil hs2) hs1) hw hs) fun E sg H q => ?_
  obtain ⟨F0, H0, F, G, s, w, S, g⟩ := q
  refine ⟨F, F0, H0, G, s, w, S, (g.ex S.st).imp fun a s1 F1 H1 st1 w1 g1 v rv => ?_⟩
  refine ⟨F1, F0, H0, G, s1, w1, S.step st1, ((g1.mono st1.fs).ex (S.step st1).st).imp fun b s2 F2 H2 st2 w2 g2 u ru => ⟨v, u, rfl, ?_⟩⟩
  exact g2 F2 H2 _ st2.fs w2 ((S.putNew w st1 rv).putNew w1 st2 ru)
end
def whM (u : ST) (b : SS) : Nat → Sls → M Out
  | 0, _ => fail
  | n + 1, G => bnd (u G) fun k => if k then bnd (b G) fun o => match o with
    | .next G2 => whM u b n G2
    | .cont G2 => whM u b n G2
    | .brk G2 => ret (.next G2)
    | .ret d => ret (.ret d)
    else ret (.next G)
def sWhile (fuel : Sls → Nat) (u : ST) (b : SS) : SS := fun G => whM u b (fuel G) G
section
variable {X : Cx} {dl : Dr X.w} {W : WX} {pos : Pos}
end
end EK


namespace EK
open PySem PySem.Spec PyProof.Rows L2
def drwAt (G : Sls) (i : Nat) : Bool := match G[i]? with
  | some (some (.fz .drw)) => true
  | _ => false
def gDr {α : Type} (i : Nat) (m : M α) : Sls → M α := fun G => if drwAt G i then m else fail
def restM : M D := fun s => some (.ok (.int s.rest), s)
def turnM : M D := fun s => some (.ok (.int s.turn), s)
def popM : M D := fun s => match s.wide with
  | x :: r => some (.ok (.int x), { s with wide := r })
  | [] => none
def wideM : M Bool := fun s => some (.ok (decide (s.wide ≠ [])), s)
def putM (put : Int → DS → DS) (G : Sls) : D → M Out
  | .int n => fun s => some (.ok (.next G), put n s)
  | _ => fail
def sDr (i : Nat) (put : Int → DS → DS) (f : SE) : SS := fun G => if drwAt G i then bnd (f G) (putM put G) else fail
def putRest (n : Int) (s : DS) : DS := { s with rest := n }
def putTurn (n : Int) (s : DS) : DS := { s with turn := n }
theorem drwAt_sl {K : PySem.W.Frag} {mg : Str → Option Value} {wd : World} {dl : Dr wd} {F0 H0 F H : Hp} {sg : L2.St} {G : Sls} {i : Nat} (S : Sim K mg dl F0 H0 F H sg G) (h : drwAt G i = true) : sg[i]? = some (some (.ref dl.a)) := by
  unfold drwAt at h
  split at h
  · rename_i e
    obtain ⟨v, h1, h2⟩ := S.sl i _ e
    rw [h1, show v = .ref dl.a from h2]
  · cases h
section
variable {X : Cx} {dl : Dr X.w} {W : WX} {F H : Hp} {s : DS}
theorem Step.dr {b : Addr} {o : HO} (h : dl.has b) (e : ∃ u, H b = some u) : Step dl F H F (upd H b o) :=
  ⟨fun _ _ h => h, fun c u nc e => by rw [upd_ne (fun z => nc (by rw [z]; exact h))]; exact e, fun _ _ h => .inl h, fun c e' => by
    by_cases z : c = b
    · subst z; rw [upd_same] at e'; cases e'
    · rw [upd_ne z] at e'; exact e'⟩
theorem dk_ne {a b : Addr} {x : List (Key × V)} {y : List V} (h1 : H a = some (.dK x)) (h2 : H b = some (.lst y)) : a ≠ b := fun z => by rw [z, h2] at h1; cases h1
theorem wd_rest {n : Int} (w : Wd dl F H s) : Wd dl F (upd H dl.a (.dK [(Sum.inr "wide", .ref dl.w), (Sum.inr "cells", .ref dl.c), (Sum.inr "rest", .int n), (Sum.inr "turn", .int s.turn)])) (putRest n s) := by
  obtain ⟨d1, d2, d3, d4⟩ := w.dr
  refine ⟨fun b u e => ?_, w.off, ⟨upd_same, ?_, ?_, d4⟩, w.tb.upd (fun _ _ e => e) (fun q hq z => by
    obtain ⟨ps, h1, _⟩ := w.tb.at_ q hq
    rw [z, d1] at h1; cases h1) (fun _ z => by cases z) (.inl fun _ _ z => by unfold LamX.CodeO at z; cases z)⟩
  · rw [upd_ne (fun z => by rw [z, w.off _ (.inl rfl)] at e; cases e)]; exact w.sub b u e
  · rw [upd_ne (Ne.symm (dk_ne d1 d2))]; exact d2
  · rw [upd_ne (Ne.symm (dk_ne d1 d3))]; exact d3
theorem wd_turn {n : Int} (w : Wd dl F H s) : Wd dl F (upd H dl.a (.dK [(Sum.inr "wide", .ref dl.w), (Sum.inr "cells", .ref dl.c), (Sum.inr "rest", .int s.rest), (Sum.inr "turn", .int n)])) (putTurn n s) := by
  obtain ⟨d1, d2, d3, d4⟩ := w.dr
  refine ⟨fun b u e => ?_, w.off, ⟨upd_same, ?_, ?_, d4⟩, w.tb.upd (fun _ _ e => e) (fun q hq z => by
    obtain ⟨ps, h1, _⟩ := w.tb.at_ q hq
    rw [z, d1] at h1; cases h1) (fun _ z => by cases z) (.inl fun _ _ z => by unfold LamX.CodeO at z; cases z)⟩
  · rw [upd_ne (fun z => by rw [z, w.off _ (.inl rfl)] at e; cases e)]; exact w.sub b u e
  · rw [upd_ne (Ne.symm (dk_ne d1 d2))]; exact d2
  · rw [upd_ne (Ne.symm (dk_ne d1 d3))]; exact d3
end
section
variable {X : Cx} {dl : Dr X.w} {W : WX} {e : Expr} {f : SE} {pos p q : Pos} {x : Str} {j : Nat}
theorem de_rest (i : Nat) (hu : X.A.units + 64 < cLine) (hN : X.N[i]? = some x := by rfl) (hv : Vis X.env.scope x := by first | exact Or.inl rfl | exact Or.inr (Or.inl rfl) | exact Or.inr (Or.inr rfl))
    (hd : (x == ("__debug__" : Str)) = false := by decide) (hcd : (x == ("__classdict__" : Str)) = false := by decide) : DE X dl W (.Subscript (.Name x p) (.Constant (.str "rest") j q) pos) (gDr i restM) := by
  refine PE.of (pe_dget (by omega) (pe_var hN hv hd hcd) pe_str (fun _ _ => rfl)) fun sg H Q q => ?_
  obtain ⟨F, F0, H0, G, s, w, S, g⟩ := q
  unfold gDr at g
  split at g
  · rename_i h
    exact ⟨.ref dl.a, drwAt_sl S h, dl.a, .int s.rest, rfl, .inl ⟨_, Sum.inr "rest", .inl w.dr.1, rfl, rfl⟩, g F H Step.refl w _ rfl⟩
  · exact g.elim
theorem de_turn (i : Nat) (hu : X.A.units + 64 < cLine) (hN : X.N[i]? = some x := by rfl) (hv : Vis X.env.scope x := by first | exact Or.inl rfl | exact Or.inr (Or.inl rfl) | exact Or.inr (Or.inr rfl))
    (hd : (x == ("__debug__" : Str)) = false := by decide) (hcd : (x == ("__classdict__" : Str)) = false := by decide) : DE X dl W (.Subscript (.Name x p) (.Constant (.str "turn") j q) pos) (gDr i turnM) := by
  refine PE.of (pe_dget (by omega) (pe_var hN hv hd hcd) pe_str (fun _ _ => rfl)) fun sg H Q q => ?_
  obtain ⟨F, F0, H0, G, s, w, S, g⟩ := q
  unfold gDr at g
  split at g
  · rename_i h
    exact ⟨.ref dl.a, drwAt_sl S h, dl.a, .int s.turn, rfl, .inl ⟨_, Sum.inr "turn", .inl w.dr.1, rfl, rfl⟩, g F H Step.refl w _ rfl⟩
  · exact g.elim
theorem ds_rest (i : Nat) {ap : Pos} (hu : X.A.units + 64 < cLine) (he : DE X dl W e f) (hN : X.N[i]? = some x := by rfl) (hv : Vis X.env.scope x := by first | exact Or.inl rfl | exact Or.inr (Or.inl rfl) | exact Or.inr (Or.inr rfl))
    (hd : (x == ("__debug__" : Str)) = false := by decide) (hcd : (x == ("__classdict__" : Str)) = false := by decide) (hs : swapsWith e (some (.Subscript (.Name x p) (.Constant (.str "rest") j q) ap)) pos.line X.env = pure false := by rfl) :
    DSt X dl W (.Assign [.Subscript (.Name x p) (.Constant (.str "rest") j q) ap] e pos) (sDr i putRest f) := by
  refine PS.of (ps_dput (by omega) (pe_var hN hv hd hcd) pe_str he hs) fun E sg H q => ?_
  obtain ⟨F0, H0, F, G, s, w, S, g⟩ := q
  unfold sDr at g
  split at g
  case isFalse => exact g.elim
  rename_i h
  refine ⟨F, F0, H0, G, s, w, S, (g.ex S.st).imp fun d s1 F1 H1 st1 w1 g1 v rv => ?_⟩
  have S1 := S.step st1
  cases d with
  | int n =>
    cases (show v = .int n from rv)
    refine ⟨.ref dl.a, drwAt_sl S1 h, dl.a, _, rfl, .inl ⟨_, Sum.inr "rest", w1.dr.1, rfl, ?_, rfl⟩, ?_⟩
    · show 4 < sizeLine; decide
    · have st2 : Step dl F1 H1 F1 (upd H1 dl.a (.dK [(Sum.inr "wide", .ref dl.w), (Sum.inr "cells", .ref dl.c), (Sum.inr "rest", .int n), (Sum.inr "turn", .int s1.turn)])) := Step.dr (.inl rfl) ⟨_, w1.dr.1⟩
      exact g1 F1 _ sg st1.fs (wd_rest w1) (S1.step st2)
  | _ => exact g1.elim
theorem ds_turn (i : Nat) {ap : Pos} (hu : X.A.units + 64 < cLine) (he : DE X dl W e f) (hN : X.N[i]? = some x := by rfl) (hv : Vis X.env.scope x := by first | exact Or.inl rfl | exact Or.inr (Or.inl rfl) | exact Or.inr (Or.inr rfl))
    (hd : (x == ("__debug__" : Str)) = false := by decide) (hcd : (x == ("__classdict__" : Str)) = false := by decide) (hs : swapsWith e (some (.Subscript (.Name x p) (.Constant (.str "turn") j q) ap)) pos.line X.env = pure false := by rfl) :
    DSt X dl W (.Assign [.Subscript (.Name x p) (.Constant (.str "turn") j q) ap] e pos) (sDr i putTurn f) := by
  refine PS.of (ps_dput (by omega) (pe_var hN hv hd hcd) pe_str he hs) fun E sg H q => ?_
  obtain ⟨F0, H0, F, G, s, w, S, g⟩ := q
  unfold sDr at g
  split at g
  case isFalse => exact g.elim
  rename_i h
  refine ⟨F, F0, H0, G, s, w, S, (g.ex S.st).imp fun d s1 F1 H1 st1 w1 g1 v rv => ?_⟩
  have S1 := S.step st1
  cases d with
  | int n =>
    cases (show v = .int n from rv)
    refine ⟨.ref dl.a, drwAt_sl S1 h, dl.a, _, rfl, .inl ⟨_, Sum.inr "turn", w1.dr.1, rfl, ?_, rfl⟩, ?_⟩
    · show 4 < sizeLine; decide
    · have st2 : Step dl F1 H1 F1 (upd H1 dl.a (.dK [(Sum.inr "wide", .ref dl.w), (Sum.inr "cells", .ref dl.c), (Sum.inr "rest", .int s1.rest), (Sum.inr "turn", .int n)])) := Step.dr (.inl rfl) ⟨_, w1.dr.1⟩
      exact g1 F1 _ sg st1.fs (wd_turn w1) (S1.step st2)
  | _ => exact g1.elim

theorem dpAll_ints {K : PySem.W.Frag} {H : Hp} : ∀ xs : List Int, DpAll K H (xs.map V.int) (xs.map PyData.int)
  | [] => .nil
  | x :: xs => .cons (.int x) (dpAll_ints xs)
theorem shaped_ints (xs : List Int) : SeqAt.shaped (.list (xs.map PyData.int)) = true := by
  have h1 : ∀ xs : List Int, PyData.canLayAll0 (xs.map PyData.int) = true := fun xs => by
    induction xs with
    | nil => rfl
    | cons x xs ih => simp [PyData.canLayAll0, PyData.canLay0, ih]
  have h2 : ∀ xs : List Int, PyData.depthAll (xs.map PyData.int) = 0 := fun xs => by
    induction xs with
    | nil => rfl
    | cons x xs ih => simp [PyData.depthAll, PyData.depth, ih]
  simp [SeqAt.shaped, PyData.canLay0, PyData.depth, h1, h2]
theorem pe_wide (i : Nat) (hu : X.A.units + 64 < cLine) (hN : X.N[i]? = some x := by rfl) (hv : Vis X.env.scope x := by first | exact Or.inl rfl | exact Or.inr (Or.inl rfl) | exact Or.inr (Or.inr rfl))
    (hd : (x == ("__debug__" : Str)) = false := by decide) (hcd : (x == ("__classdict__" : Str)) = false := by decide) (z : Str) : PE X (.Subscript (.Name x p) (.Constant (.str z) j q) pos) (tDGet (tVar i) (tC (.str z))) :=
  pe_dget (by omega) (pe_var hN hv hd hcd) pe_str (fun _ _ => rfl)
theorem de_popW (i : Nat) {ap cp p0 : Pos} {j0 : Nat} (hu : X.A.units + 64 < cLine) (hN : X.N[i]? = some x := by rfl) (hv : Vis X.env.scope x := by first | exact Or.inl rfl | exact Or.inr (Or.inl rfl) | exact Or.inr (Or.inr rfl))
    (hd : (x == ("__debug__" : Str)) = false := by decide) (hcd : (x == ("__classdict__" : Str)) = false := by decide)
    (hbase : attributeBase (.Subscript (.Name x p) (.Constant (.str "wide") j q) pos) "pop" X.env (eval (.Subscript (.Name x p) (.Constant (.str "wide") j q) pos) X.env) = eval (.Subscript (.Name x p) (.Constant (.str "wide") j q) pos) X.env := by rfl)
    (hfew : ((backTo cp (starEach [.Constant (.int 0) j0 p0] X.env)).all (fun x => !x.1) && (backToKw cp (keywordEach [] X.env)).all (fun x => x.1.isSome)
      && decide (([.Constant (.int 0) j0 p0] : List Expr).length + ([] : List Keyword).length + (if ([] : List Keyword).isEmpty then 0 else 1) < 30)) = true := by rfl)
    (hline : (ap.endLine == cp.line) = true := by rfl) :
    DE X dl W (.Call (.Attribute (.Subscript (.Name x p) (.Constant (.str "wide") j q) pos) "pop" ap) [.Constant (.int 0) j0 p0] [] cp) (gDr i popM) := by
  refine PE.of (pe_bm PySem.F.plainAttrs_list PySem.F.slot_list_pop PySem.F.type_list_pop mt_popAt (pe_wide i hu hN hv hd hcd "wide") (pa_cons pe_int pa_nil rfl) hbase hfew hline rfl rfl) fun sg H Q q => ?_
  obtain ⟨F, F0, H0, G, s, w, S, g⟩ := q
  unfold gDr at g
  split at g
  case isFalse => exact g.elim
  rename_i h
  obtain ⟨d1, d2, d3, d4⟩ := w.dr
  refine ⟨.ref dl.a, drwAt_sl S h, dl.a, .ref dl.w, rfl, .inl ⟨_, Sum.inr "wide", .inl d1, rfl, rfl⟩, .inl ⟨rfl, _, SqL.of d2⟩, ?_⟩
  unfold popM at g
  cases ew : s.wide with
  | nil => rw [ew] at g; exact g.elim
  | cons a r =>
    rw [ew] at g d2
    refine ⟨dl.w, _, 0, 0, .int a, rfl, rfl, d2, by decide, by decide, ?_, rfl, ?_⟩
    · simp [seqIndex?]
    · refine g F _ (Step.dr (.inr (.inl rfl)) ⟨_, d2⟩) ⟨fun b u e => ?_, w.off, ⟨?_, ?_, ?_, d4⟩, w.tb.upd (fun _ _ e => e) (fun q hq z => by
        obtain ⟨ps, h1, _⟩ := w.tb.at_ q hq
        rw [z, d2] at h1; cases h1) (fun _ z => by cases z) (.inl fun _ _ z => by unfold LamX.CodeO at z; cases z)⟩ _ rfl
      · rw [upd_ne (fun z => by rw [z, w.off _ (.inr (.inl rfl))] at e; cases e)]; exact w.sub b u e
      · rw [upd_ne (dk_ne d1 d2)]; exact d1
      · exact upd_same
      · rw [upd_ne (Ne.symm d4)]; exact d3
theorem dt_wide (i : Nat) {p1 : Pos} (hu : X.A.units + 64 < cLine) (hN : X.N[i]? = some x := by rfl) (hv : Vis X.env.scope x := by first | exact Or.inl rfl | exact Or.inr (Or.inl rfl) | exact Or.inr (Or.inr rfl))
    (hd : (x == ("__debug__" : Str)) = false := by decide) (hcd : (x == ("__classdict__" : Str)) = false := by decide) {cp : Pos} : DT X dl W (.Compare (.Subscript (.Name x p) (.Constant (.str "wide") j q) pos) [.NotEq] [.List [] p1] cp) (gDr i wideM) := by
  refine PT.of (pt_cmpR (op_neD hu) (pe_wide i hu hN hv hd hcd "wide") (pe_lst pa_nil) rfl) fun sg H Q q => ?_
  obtain ⟨F, F0, H0, G, s, w, S, g⟩ := q
  unfold gDr at g
  split at g
  case isFalse => exact g.elim
  rename_i h
  obtain ⟨d1, d2, d3, d4⟩ := w.dr
  refine ⟨.ref dl.a, drwAt_sl S h, dl.a, .ref dl.w, rfl, .inl ⟨_, Sum.inr "wide", .inl d1, rfl, rfl⟩, Nat.zero_le _, fun l hl => ?_⟩
  have w' := w.newO (o := .lst []) hl
  obtain ⟨e1, e2, e3, e4⟩ := w'.dr
  have e0 : Dp X.K (upd H l (.lst [])) (.ref dl.w) (.list (s.wide.map PyData.int)) := .lst (SqL.of e2) (dpAll_ints _)
  refine ⟨_, .list [], e0, .lst (SqL.of upd_same) .nil, shaped_ints _, by decide, ?_⟩
  have eb : (!PyData.eqv (.list (s.wide.map PyData.int)) (.list [])) = decide (s.wide ≠ []) := by
    cases s.wide <;> simp [PyData.eqv, PyData.eqvAll]
  rw [eb]
  exact ⟨_, rfl, g F _ (Step.newO hl) w'⟩

def cutF (F : Hp) (a : Addr) : Hp := fun b => if b = a then none else F b
theorem cutF_some {F : Hp} {a b : Addr} {o : HO} (h : cutF F a b = some o) : b ≠ a ∧ F b = some o := by
  unfold cutF at h
  by_cases z : b = a
  · rw [if_pos z] at h; cases h
  · rw [if_neg z] at h; exact ⟨z, h⟩
theorem cutF_ne {F : Hp} {a b : Addr} (z : b ≠ a) : cutF F a b = F b := if_neg z
theorem lent {F H F' H' : Hp} {a : Addr} {o : HO} {s : DS} (n : F a = none) (ho : ∀ c q, o ≠ LamX.CodeO c q) (st : Step dl (upd F a o) H F' H') (w : Wd dl F' H' s) : Step dl F H (cutF F' a) H' ∧ Wd dl (cutF F' a) H' s := by
  refine ⟨⟨fun b u e => ?_, st.hs, fun b u e => ?_, st.al⟩, ⟨fun b u e => w.sub b u (cutF_some e).2, fun b hb => ?_, w.dr, by
    have nc : ∀ b c q, F' b = some (LamX.CodeO c q) → b ≠ a := fun b c q e z => by
      subst z
      have y := st.fs b o upd_same
      rw [e] at y
      cases y
      exact ho _ _ rfl
    refine ⟨fun p hp => ?_, w.tb.nt, fun b c q e => ?_⟩
    · obtain ⟨ps, h1, h2, h3⟩ := w.tb.at_ p hp
      refine ⟨ps, h1, h2, fun pos cv hc => ?_⟩
      obtain ⟨c, e1, e2⟩ := h3 pos cv hc
      exact ⟨c, e1, by rw [cutF_ne (nc _ _ _ e2)]; exact e2⟩
    · have e2 := w.tb.cd b c q e
      rw [cutF_ne (nc _ _ _ e2)]; exact e2⟩⟩
  · have z : b ≠ a := ne_of_none e n
    rw [cutF_ne z]
    exact st.fs b u (by rw [upd_ne z]; exact e)
  · obtain ⟨z, e'⟩ := cutF_some e
    rcases st.nw b u e' with h | h
    · rw [upd_ne z] at h; exact .inl h
    · exact .inr h
  · unfold cutF
    split
    · rfl
    · exact w.off b hb
/-- an answer that is no place -/
def flatD : D → Bool
  | .non => true
  | .bl _ => true
  | .int _ => true
  | .str _ => true
  | _ => false
def g2O (g : D → D → Option D) (i : Nat) (fb : SE) : SE := fun G => bnd (ofO (ownAt G i)) fun ds => bnd (fb G) fun y => ofO (g (.lst ds) y)
def g2O' (g : D → D → Option D) (fa : SE) (i : Nat) : SE := fun G => bnd (fa G) fun y => bnd (ofO (ownAt G i)) fun ds => ofO (g y (.lst ds))
variable {b : Expr} {fb : SE} {g : D → D → Option D}
def popO (ds : List D) : D → Option (D × List D)
  | .int k => if 0 ≤ k ∧ k < ds.length ∧ ds.length < 1000000 then (ds[k.toNat]?).map fun d => (d, ds.eraseIdx k.toNat) else none
  | _ => none
/-- slot i takes what slot l gives -/
def sAppPop (i l : Nat) (f : SE) : SS := fun G => bnd (ofO (ownAt G i)) fun as => bnd (ofO (ownAt G l)) fun bs => bnd (f G) fun k => bnd (ofO (popO bs k)) fun r =>
  if as.length < 1000000 then ret (.next ((G.set l (some (.own r.2))).set i (some (.own (as ++ [r.1]))))) else fail
end
end EK


namespace EK
open PySem PySem.Spec PyProof.Rows L2
def sForC (i : Nat) (a : SG) (b : SS) : SS := fun G => if drwAt G i then (fun s => forM a b (s.cells.map D.int) G s) else fail
/-- no state is changed by it -/
def Still (b : SS) : Prop := ∀ G s r s', b G s = some (r, s') → s' = s
section
variable {X : Cx} {dl : Dr X.w} {W : WX} {pos p q : Pos} {x : Str} {j : Nat}
theorem ds_forC (i : Nat) {tg : Expr} {body : List Stmt} {is : List Nat} {a : SG} {b : SS} {p0 : Pos} (hu : X.A.units + 64 < cLine) (hp : PassesOwn (model X.prog X.w) X.A X.env X.xe) (hc : X.calm = true) (hg : DG X dl tg is a) (hb : DSs X dl W body b) (hst : Still b)
    (hN : X.N[i]? = some x := by rfl) (hv : Vis X.env.scope x := by first | exact Or.inl rfl | exact Or.inr (Or.inl rfl) | exact Or.inr (Or.inr rfl))
    (hd : (x == ("__debug__" : Str)) = false := by decide) (hcd : (x == ("__classdict__" : Str)) = false := by decide)
    (h1 : ∀ z, foldedSetIterable (.Subscript (.Name x p) (.Constant (.str "cells") j q) p0) X.env z = pure z := by intro _; rfl) : DSt X dl W (.For tg (.Subscript (.Name x p) (.Constant (.str "cells") j q) p0) body [] pos) (sForC i a b) := by
  refine PS.of (ps_for hp hc (pi_any (pe_wide i hu hN hv hd hcd "cells")) hg hb h1) fun E sg H q => ?_
  obtain ⟨F0, H0, F, G, s, w, S, g⟩ := q
  unfold sForC at g
  split at g
  case isFalse => exact g.elim
  rename_i h
  have g : GoS X dl W F0 H0 F (forM a b (s.cells.map D.int) G s) E := g
  obtain ⟨d1, d2, d3, d4⟩ := w.dr
  refine ⟨.ref dl.a, drwAt_sl S h, dl.a, .ref dl.c, rfl, .inl ⟨_, Sum.inr "cells", .inl d1, rfl, rfl⟩, .inl ⟨dl.c, rfl, ⟨_, SqL.of d3⟩, ?_⟩⟩
  refine for_it (n := (s.cells.map V.int).length) (G := fun H2 => SqL X.K H2 dl.c (s.cells.map V.int)) walk_list (fun i sg' H' => ∃ (F' : Hp) (G' : Sls), Wd dl F' H' s ∧ Sim X.K X.mg dl F0 H0 F' H' sg' G' ∧ GoS X dl W F0 H0 F' (forM a b ((s.cells.map D.int).drop i) G' s) E) ?_ ?_ ?_ ?_
  · exact ⟨F, G, w, S, by simpa using g⟩
  · rintro i sg' H' _ ⟨F', G', w', S', _⟩
    exact SqL.of w'.dr.2.2.1
  · rintro i y sg' H' H2 hi ⟨F', G', w', S', go⟩ ⟨e1, e2⟩
    subst e1
    have hlt : i < (s.cells.map D.int).length := by simpa using hi
    obtain ⟨c, ec, ey⟩ : ∃ c, s.cells[i]? = some c ∧ y = .int c := by
      rw [List.getElem?_map] at e2
      cases e : s.cells[i]? with
      | none => rw [e] at e2; cases e2
      | some c => rw [e] at e2; cases e2; exact ⟨c, rfl, rfl⟩
    have ed : (s.cells.map D.int).drop i = .int c :: (s.cells.map D.int).drop (i + 1) := by
      rw [List.drop_eq_getElem_cons hlt]
      have : (s.cells.map D.int)[i] = .int c := by
        have z : (s.cells.map D.int)[i]? = some (.int c) := by rw [List.getElem?_map, ec]; rfl
        rw [List.getElem?_eq_getElem hlt] at z
        exact Option.some.inj z
      rw [this]
    rw [ed] at go
    obtain ⟨G2, eG, go2⟩ := GoS.ofO go
    refine ⟨F0, H0, F', G', s, .int c, G2, w', S', ey, eG, fun sg2 _ S2 => ⟨F0, H0, F', G2, s, w', S2, ?_⟩⟩
    unfold bnd at go2
    cases eb : b G2 s with
    | none => rw [eb] at go2; exact go2.elim
    | some pr =>
      obtain ⟨r, s3⟩ := pr
      cases hst G2 s r s3 eb
      rw [eb] at go2
      cases r with
      | err ex => exact go2
      | ok o =>
        cases o with
        | next G3 => exact fun F3 H3 sg3 sm3 w3 S3 => ⟨F3, G3, w3, S3, go2.mono sm3⟩
        | cont G3 => exact fun F3 H3 sg3 sm3 w3 S3 => ⟨F3, G3, w3, S3, go2.mono sm3⟩
        | brk G3 => exact go2
        | ret d => exact go2
  · rintro sg' H' ⟨F', G', w', S', go⟩
    rw [show (s.cells.map D.int).drop (s.cells.map V.int).length = [] by simp] at go
    exact go F' H' sg' (fun _ _ h => h) w' S'
def intD : List D → Option D
  | [.int i] => some (.int i)
  | [.bl k] => some (.int (if k then 1 else 0))
  | _ => none
theorem cd_int : CallR X (.type "int") (rCD X dl intD) := by
  refine rc_of call_int1 fun xs H Q F s ds d w ra e k => ?_
  unfold intD at e
  split at e
  · cases e
    obtain ⟨v, rfl, r⟩ := repL1 ra
    exact .inl ⟨_, by rw [show v = .int _ from r], k F H _ Step.refl w rfl⟩
  · cases e
    obtain ⟨v, rfl, r⟩ := repL1 ra
    exact .inr ⟨_, by rw [show v = .bl _ from r], k F H _ Step.refl w rfl⟩
  · cases e
def absD : List D → Option D
  | [.int i] => some (.int (if i < 0 then -i else i))
  | _ => none
def powD := iopC (fun i j => decide (0 ≤ j ∧ j ≤ 1000000 ∧ i.natAbs < 2 ^ 64)) fun i j => .int (i ^ j.toNat)
theorem od_pow : OpR X (binaryOp .Pow) (rD X dl powD) := op_iopC op_pow (fun i j h => (of_decide_eq_true h : 0 ≤ j ∧ j ≤ 1000000 ∧ i.natAbs < 2 ^ 64)) fun _ _ _ => rfl
end
end EK


namespace EK
open PySem PySem.Spec PyProof.Rows L2
section
variable {X : Cx} {dl : Dr X.w} {W : WX}
def listP : PyData → Option (List PyData)
  | .list ps => some ps
  | _ => none
/-- x in a list of data -/
def inL : D → D → Option D := fun a b => (toP a).bind fun p => (toP b).bind fun q => (listP q).bind fun ps => if (SeqAt.shaped p && SeqAt.shaped q) = true then some (.bl (ps.any fun z => PyData.eqv z p)) else none
def asLen : D → M D
  | .int n => if 0 ≤ n ∧ n < 2 ^ 63 then ret (.int n) else fail
  | _ => fail
def lenC (c : Str) (fm : List D → M D) : List D → M D
  | [d] => if isC c d then bnd (fm [d]) asLen else fail
  | _ => fail
end
end EK


namespace EK
open PySem PySem.Spec PyProof.Rows L2
def obsXG (n : Nat) (fa : List He.Fa) (fn : List He.DefD) (fx : List Fx) (g : Addr → Option Obj) : AlX := obsX fa fn fx (He.frG g (He.asD g n))
def hookX (n : Nat) (fa : List He.Fa) (fn : List He.DefD) (fx : List Fx) : PySem.W.Hook where
  α := AlX
  obs := fun s => obsXG n fa fn fx s.heap.get?
  val := fun _ => (He.valD fn, true)
  says := fun _ h => ∃ K : PySem.W.Frag, K.In h ∧ SaysX fa fn fx K
  of := fun _ _ e => ⟨_, He.frG_in, congrArg (fun z : AlX => z.1) e, congrArg (fun z : AlX => z.2) e⟩
  keeps := fun _ _ _ ⟨K, hK, c⟩ k => ⟨K, PySem.W.Frag.In.keeps hK k, c⟩
section
variable {fa : List He.Fa} {fn : List He.DefD} {fx : List Fx} {K : PySem.W.Frag} {h : Heap} {mg : Str → Option Value}
theorem SaysX.fact (c : SaysX fa fn fx K) (i : Nat) {f : Fx} (h : fx[i]? = some f := by rfl) : f.ok K = true := List.all_eq_true.mp c.x f (List.mem_of_getElem? h)
theorem clsB_ok {C : Addr} (h : clsB K C = true) : PySem.W.findIn K (.ref C) "__class__" = some (some (.builtin "object.__class__")) ∧ PySem.W.specialIn K (.builtin "object.__class__") "__get__" = some (some (.builtin "getset_descriptor.__get__")) ∧
    PySem.W.takesIn K (.builtin "object.__class__") = some true ∧ PySem.W.mroIn K C (.type "object") = some true := by
  unfold clsB at h
  obtain ⟨h1, h⟩ := He.ba h
  obtain ⟨h2, h⟩ := He.ba h
  obtain ⟨h3, h4⟩ := He.ba h
  exact ⟨He.eqO_ok h1, He.eqO_ok h2, of_decide_eq_true h3, of_decide_eq_true h4⟩
theorem lookup_mem {α : Type} {l : List (String × α)} {t : String} {b : α} (h : l.lookup t = some b) : (t, b) ∈ l := by
  induction l with
  | nil => cases h
  | cons p l ih =>
    obtain ⟨x, y⟩ := p
    rw [List.lookup_cons] at h
    split at h
    · rename_i e
      cases h
      rw [beq_iff_eq.mp e]
      exact List.mem_cons_self
    · exact List.mem_cons_of_mem _ (ih h)
theorem kits_ok {u : Ty} {tbl : List (String × Bool)} (c : (Fx.kits u tbl).ok K = true) : ∀ t b, tbl.lookup t = some b → PySem.W.kitOne K (.type t) (u.val K) = some b := fun t b h =>
  of_decide_eq_true (List.all_eq_true.mp (show (tbl.all fun p => decide (PySem.W.kitOne K (.type p.1) (u.val K) = some p.2)) = true from c) (t, b) (lookup_mem h))
variable {P : Program} {w : World} {base : Heap} {x m : Str} {k n : Nat} {fm : List D → M D} {fd : FuncData} {ps : List Str}
theorem def_of (gl : mg x = some (.ref (He.ga K x))) (kp : PySem.W.keepIn K (.ref (He.ga K x)) = true) (hl : ps.length = n) (hb : Binds K fd ps []) (F : FnOk P w K mg base (L2.CX P w) k (He.ga K x) fd ps (spD K mg w n fm)) : DFn P w K mg base x k n fm :=
  ⟨_, fd, ps, gl, kp, hl, hb, F⟩
end
end EK


namespace EK
open PySem PySem.Spec PyProof.Rows L2
theorem hu64 {k : Nat} {A : Around} (r : Room k A) : A.units + 64 < cLine := by have := r.un; omega
theorem no_cls {K : PySem.W.Frag} {mg : Str → Option Value} {T : Value} : ∀ c b, ([] : List (Str × Bool)).lookup c = some b → IsiF K mg c T b := fun _ _ h => nomatch h
/-- a list display of one's own -/
def gLD (r : SA) : SA := fun G => bnd (r G) fun ds => ofO (if ds.length ≤ sizeLine then some ds else none)
def sFldC (c nm : Str) (f : SE) : SS := fun G => match (G[0]? : Option (Option Sl)) with
  | some (some (.ini c' _ _)) => if c' = c then sFldI nm f G else fail
  | _ => fail
section
variable {X : Cx} {dl : Dr X.w} {W : WX} {pos p p2 pos' : Pos} {e : Expr} {es : List Expr} {f : SE} {ra : SA} {x : Str} {id : String}
end
theorem bb_len : bootBuiltins "len" = some (.builtin "len") := by decide +kernel
theorem bb_min : bootBuiltins "min" = some (.builtin "min") := by decide +kernel
theorem bb_abs : bootBuiltins "abs" = some (.builtin "abs") := by decide +kernel
theorem bb_int : bootBuiltins "int" = some (.type "int") := by decide +kernel
theorem bb_str : bootBuiltins "str" = some (.type "str") := by decide +kernel
theorem lenN : ∀ (G : Sls) (ds : List D) (G' : Sls), sgNil G ds = some G' → ds.length = 0 := fun G ds G' h => by
  cases ds with
  | nil => rfl
  | cons a l => cases h
theorem lenK {f : SG} {r : Sls → List D → Option Sls} {n : Nat} (h : ∀ (G : Sls) (ds : List D) (G' : Sls), r G ds = some G' → ds.length = n) : ∀ (G : Sls) (ds : List D) (G' : Sls), sgCons f r G ds = some G' → ds.length = n + 1 := fun G ds G' e => by
  cases ds with
  | nil => cases e
  | cons a l =>
    have e : ((f G a).bind fun G1 => r G1 l) = some G' := e
    cases q : f G a with
    | none => rw [q] at e; cases e
    | some G1 =>
      rw [q] at e
      rw [List.length_cons, h G1 l G' e]
def Stl {α : Type} (m : M α) : Prop := ∀ s r s', m s = some (r, s') → s' = s
theorem stl_ret {α : Type} {a : α} : Stl (ret a) := fun s r s' h => by cases h; rfl
theorem stl_fail {α : Type} : Stl (fail : M α) := fun s r s' h => by cases h
theorem stl_ofO {α : Type} {o : Option α} : Stl (ofO o) := by
  cases o with
  | none => exact stl_fail
  | some a => exact stl_ret
theorem stl_bnd {α β : Type} {m : M α} {k : α → M β} (h1 : Stl m) (h2 : ∀ a, Stl (k a)) : Stl (bnd m k) := fun s r s' h => by
  unfold bnd at h
  cases e : m s with
  | none => rw [e] at h; cases h
  | some p =>
    obtain ⟨r1, s1⟩ := p
    rw [e] at h
    cases h1 s r1 s1 e
    cases r1 with
    | err x => cases h; rfl
    | ok a => exact h2 a s r s' h
theorem stl_gv {i : Nat} {G : Sls} : Stl (gv i G) := by
  unfold gv
  split
  · exact stl_ret
  · exact stl_fail
theorem stl_g2 {g : D → D → Option D} {fa fb : SE} {G : Sls} (ha : Stl (fa G)) (hb : Stl (fb G)) : Stl (g2 g fa fb G) := stl_bnd ha fun _ => stl_bnd hb fun _ => stl_ofO
theorem stl_gC {g : List D → Option D} {fa : SA} {G : Sls} (ha : Stl (fa G)) : Stl (gC g fa G) := stl_bnd ha fun _ => stl_ofO
theorem stl_saC {f : SE} {r : SA} {G : Sls} (ha : Stl (f G)) (hb : Stl (r G)) : Stl (saC f r G) := stl_bnd ha fun _ => stl_bnd hb fun _ => stl_ret
theorem stl_sa0 {G : Sls} : Stl (sa0 G) := stl_ret
theorem still_asg {f : SE} {a : SG} (h : ∀ G, Stl (f G)) : Still (sAsg f a) := fun G => stl_bnd (h G) fun _ => stl_bnd stl_ofO fun _ => stl_ret
section
variable {X : Cx} {dl : Dr X.w} {W : WX} {a b : Expr} {c1 c2 : V} {p p' pos : Pos} {x : Str}
end
section
variable {X : Cx} {dl : Dr X.w} {W : WX} {b : Expr} {fb : SE} {g : D → D → Option D} {p pos : Pos} {x : Str}
end
end EK


namespace EK
open PySem PySem.Spec PyProof.Rows L2
def absI (g : Int) : Int := if g < 0 then -g else g
def wideOf (ns : List Int) : List Int := (ns.filter fun g => decide (10 ^ 18 ≤ absI g)).map fun g => absI g - 10 ^ 18
def cellsOf (ns : List Int) : List Int := ns.map fun g => absI g % 2147483629
def ds0 (ns : List Int) : DS := ⟨wideOf ns, cellsOf ns, 0, 0⟩
/-- the drawing object, new -/
structure Begun {wd : World} (dl : Dr wd) (H H' : Hp) (ns : List Int) : Prop where
  kp : ∀ b o, H b = some o → H' b = some o
  al : ∀ b, H' b = none → H b = none
  nt : ∀ b o, H' b = some o → H b = some o ∨ (NotTbl o ∧ NotCode o)
  na : H dl.a = none
  nw : H dl.w = none
  nc : H dl.c = none
  ok : DrawOk dl H' (ds0 ns)
def spB (K : PySem.W.Frag) (w : World) : Sp := fun vs H Q _ => ∃ (a : Addr) (ns : List Int), vs = [.ref a] ∧ SqL K H a (ns.map V.int) ∧ ns.length ≤ 63 ∧ ∀ (dl : Dr w) (H' : Hp), Begun dl H H' ns → Q (.ref dl.a) H'
/-- [e for g in script if t], over ints -/
theorem lc_ints {K : PySem.W.Frag} {J : It} {ns : List Int} {a : Addr} {H1 : Hp} {D : Addr} {g : TG} {tt : TT} {te : TE} {vs : List Nat} {sg : L2.St} {Qd : Hp → Prop} (t : Int → Bool) (f : Int → Int)
    (wk : Walk J (ns.map V.int).length (fun H2 => SqL K H2 a (ns.map V.int)) (YAt (ns.map V.int))) (hs : SqL K H1 a (ns.map V.int)) (hD : H1 D = none) (hl : ns.length ≤ 63)
    (step : ∀ (n : Int) (H' : Hp) (P : Hp → Prop) (acc : List V), H' D = some (.lst acc) → acc.length < sizeLine → (t n = true → P (upd H' D (.lst (acc ++ [.int (f n)])))) → (t n = false → P H') → g (.int n) (wipe sg vs) H' fun s2 H2 => wipe s2 vs = wipe sg vs ∧ tt s2 H2 fun b H3 =>
      if b = true then te s2 H3 fun y H4 => ∃ acc, H4 D = some (.lst acc) ∧ acc.length < sizeLine ∧ P (upd H4 D (.lst (acc ++ [y]))) else P H3)
    (hd : Qd (upd H1 D (.lst (((ns.filter t).map f).map V.int)))) :
    ∃ W : Nat → Nat → Hp → Prop, (∃ m, W 0 m (upd H1 D (.lst []))) ∧ ∀ i m H, W i m H →
      (J.stop i H ∧ Qd H) ∨ (J.go i H ∧ ∃ Nx : Hp → Prop, (∀ H', Nx H' → ∃ m', m' < m ∧ W (i + 1) m' H') ∧ ∀ x H', J.yld i H x H' → g x (wipe sg vs) H' fun s2 H2 => wipe s2 vs = wipe sg vs ∧ tt s2 H2 fun b H3 =>
        if b = true then te s2 H3 fun y H4 => ∃ acc, H4 D = some (.lst acc) ∧ acc.length < sizeLine ∧ Nx (upd H4 D (.lst (acc ++ [y]))) else Nx H3) := by
  have sz : 1000 < sizeLine := by rw [sizeLine_eq]; omega
  refine lc_it wk (fun i H' => H' = upd H1 D (.lst ((((ns.take i).filter t).map f).map V.int))) rfl ?_ ?_ ?_
  · rintro i H' _ rfl
    exact L2.Same.seq (fun b o e => by rw [upd_ne (ne_of_none e hD)]; exact e) hs
  · rintro i x H' H2 hi rfl ⟨rfl, e⟩
    rw [List.getElem?_map] at e
    cases en : ns[i]? with
    | none => rw [en] at e; cases e
    | some n =>
      rw [en] at e
      cases e
      have ht : ns.take (i + 1) = ns.take i ++ [n] := by rw [List.take_add_one, en]; rfl
      refine step n _ _ _ upd_same ?_ (fun c => ?_) (fun c => ?_)
      · rw [List.length_map, List.length_map]
        have h1 := List.length_filter_le t (ns.take i)
        have h2 := List.length_take_le i ns
        have h3 : (ns.take i).length ≤ ns.length := by rw [List.length_take]; omega
        omega
      · show upd (upd H1 D _) D _ = upd H1 D _
        rw [upd_upd, ht, List.filter_append, List.map_append, List.map_append]
        simp [c]
      · show upd H1 D _ = upd H1 D _
        rw [ht, List.filter_append]
        simp [c]
  · rintro H' rfl
    rw [List.length_map, List.take_length]
    exact hd
end EK


namespace EK
open PySem PySem.Spec PyProof.Rows L2
theorem pss_dl {X : Cx} {ss : List Stmt} {T : List (Addr × Str)} {t : Dr X.w → TS} (h : ∀ dl : Dr X.w, dl.tabs = T → PSs X ss (t dl)) : PSs X ss (fun E sg H => ∃ dl : Dr X.w, dl.tabs = T ∧ t dl E sg H) := ⟨fun pins s sg H D I q => by
  obtain ⟨dl, e, q⟩ := q
  exact (h dl e).run pins s sg H D I q⟩
def startL (n : Nat) (ns : List Int) : Sls := some (.fz (.scr ns)) :: some (.fz .drw) :: List.replicate (n - 2) none
def runL (n : Nat) (b : SS) (ns : List Int) : M D := bnd (b (startL n ns)) fun o => match o with
  | .next _ => ret .non
  | .ret d => ret d
  | _ => fail
def spLaw (K : PySem.W.Frag) (T : List (Addr × Str)) (m : List Int → M D) : Sp := fun vs H Q _ => ∃ (a : Addr) (ns : List Int), vs = [.ref a] ∧ (∀ p ∈ T, H p.1 = some (.tbl #[])) ∧ (∀ b, H b = none ∨ b ∈ T.map (·.1) ∨ ∃ o xs, H b = some (.frz o (.lst xs))) ∧ SqL K H a (ns.map V.int) ∧ ns.length ≤ 63 ∧ (∃ s', m ns (ds0 ns) = some (.ok (.bl true), s')) ∧ ∀ H', Q (.bl true) H'
abbrev tLaw (X : Cx) (W : WX) (T : List (Addr × Str)) (b : SS) : TS := tSeq (tAsg (tCall (spB X.K X.w) [] L2.E0 (tCons (tVar 0) tNil)) (gName 1)) (fun E sg H => ∃ dl : Dr X.w, dl.tabs = T ∧ tS X dl W b E sg H)
end EK


namespace EK
open PySem PySem.Spec PyProof.Rows L2
def isNon : D → Bool
  | .non => true
  | _ => false
def isND : D → D → Option D
  | d, .non => some (.bl (isNon d))
  | _, _ => none
def notND : D → D → Option D
  | d, .non => some (.bl (!isNon d))
  | _, _ => none
section
variable {X : Cx} {dl : Dr X.w}
end
def gCallD (n : Nat) (m : List D → M D) (dd : List D) (ra : SA) : SE := fun G => bnd (ra G) fun ds => if (ds ++ dd).length = n then m (ds ++ dd) else fail
structure DFnD (P : Program) (w : World) (K : PySem.W.Frag) (mg : Str → Option Value) (base : Heap) (x : Str) (k n : Nat) (m : List D → M D) (dd : List D) : Prop where
  ex : ∃ (f : Addr) (fd : FuncData) (ps : List Str) (ds : List Value) (dvs : List V), mg x = some (.ref f) ∧ PySem.W.keepIn K (.ref f) = true ∧ ps.length = n ∧ Vals dvs ds ∧ Binds K fd ps ds ∧ (∀ (dl : Dr w) F, RepL K mg dl F dd dvs) ∧
    FnOk P w K mg base (L2.CX P w) k f fd ps (spD K mg w n m)
section
variable {X : Cx} {dl : Dr X.w} {W : WX} {x : Str} {k n : Nat} {m : List D → M D} {dd : List D} {e : Expr} {es : List Expr} {ra : SA} {p pos : Pos}
end
end EK


namespace EK
open PySem PySem.Spec PyProof.Rows L2
def obsYG (n : Nat) (fa : List He.Fa) (fn : List He.DefD) (fx : List Fx) (gt : List GetD) (g : Addr → Option Obj) : AlY := obsY fa fn fx gt (He.frG g (He.asD g n))
def hookY (n : Nat) (fa : List He.Fa) (fn : List He.DefD) (fx : List Fx) (gt : List GetD) : PySem.W.Hook where
  α := AlY
  obs := fun s => obsYG n fa fn fx gt s.heap.get?
  val := fun _ => ((He.valD fn, true), true, gt.map GetD.val)
  says := fun _ h => ∃ K : PySem.W.Frag, K.In h ∧ SaysY fa fn fx gt K
  of := fun _ _ e => ⟨_, He.frG_in, ⟨congrArg (fun z : AlY => z.1.1) e, congrArg (fun z : AlY => z.1.2) e⟩, (He.ba (congrArg (fun z : AlY => z.2.1) e)).1, (He.ba (congrArg (fun z : AlY => z.2.1) e)).2, congrArg (fun z : AlY => z.2.2) e⟩
  keeps := fun _ _ _ ⟨K, hK, c⟩ k => ⟨K, PySem.W.Frag.In.keeps hK k, c⟩
section
variable {fa : List He.Fa} {fn : List He.DefD} {fx : List Fx} {gt : List GetD} {K : PySem.W.Frag} {mg : Str → Option Value}
variable {P : Program} {w : World} {base : Heap} {x f : Str} {k : Nat} {fm : List D → M D} {fd : FuncData} {ps : List Str} {p g : Addr}
end
end EK


namespace EK
open PySem PySem.Spec PyProof.Rows L2
/-- a new thing is locked for good -/
theorem PE.lock {X : Cx} {e : Expr} {t : TE} (h : PE X e t) : PE X e (fun sg H Q => t sg H fun v H1 => ∃ d u, v = .ref d ∧ H1 d = some u ∧ Mut (some u) ∧ ∀ od, Q v (upd H1 d (.frz od u))) :=
  ⟨fun pins s sg H Q I q => thn (h.run pins s sg H _ I q) fun u s1 ⟨v, H1, I1, r, d, uu, e1, e2, mu, k⟩ => by
    obtain ⟨od, I2⟩ := I1.lock e2 mu
    exact ⟨v, _, I2, r, k od⟩⟩
theorem CallR.lock {X : Cx} {f : Value} {t : List V → Hp → VK → Prop} (h : CallR X f t) : CallR X f (fun xs H Q => t xs H fun v H1 => ∃ d u, v = .ref d ∧ H1 d = some u ∧ Mut (some u) ∧ ∀ od, Q v (upd H1 d (.frz od u))) :=
  fun pins s sg H xs us Q I rv q => thn (h pins s sg H xs us _ I rv q) fun u s1 ⟨v, H1, I1, r, d, uu, e1, e2, mu, k⟩ => by
    obtain ⟨od, I2⟩ := I1.lock e2 mu
    exact ⟨v, _, I2, r, k od⟩
def keyOf : D → Option Key
  | .int i => some (.inl i)
  | .str x => some (.inr x)
  | _ => none
def keyD : Key → D
  | .inl i => .int i
  | .inr x => .str x
theorem key_rep {K : PySem.W.Frag} {mg : Str → Option Value} {wd : World} {dl : Dr wd} {F : Hp} {d : D} {v : V} {k : Key} (r : Rep K mg dl F d v) (e : keyOf d = some k) : v = kV k := by
  cases d with
  | int i => cases e; exact r
  | str x => cases e; exact r
  | _ => cases e
/-- what stands at a key -/
def atK : List Key → List D → Key → Option D
  | k :: ks, x :: xs, j => if k = j then some x else atK ks xs j
  | _, _, _ => none
def hasK (ks : List Key) (j : Key) : Bool := ks.any fun k => decide (k = j)
def dgetD : D → D → Option D
  | .dct ks xs, k => (keyOf k).bind fun j => atK ks xs j
  | _, _ => none
section
variable {X : Cx} {dl : Dr X.w} {W : WX} {a b : Expr} {fa fb : SE} {pos : Pos}
def dinB : D → D → Option Bool
  | k, .dct ks _ => (keyOf k).map fun j => hasK ks j
  | _, _ => none
def dinD (a b : D) : Option D := (dinB a b).map .bl
def dninD (a b : D) : Option D := (dinB a b).map fun k => .bl (!k)
def nodupK : List Key → Bool
  | [] => true
  | k :: ks => !hasK ks k && nodupK ks
theorem hasK_iff {ks : List Key} {j : Key} : hasK ks j = true ↔ j ∈ ks := by
  unfold hasK
  rw [List.any_eq_true]
  constructor
  · rintro ⟨k, h1, h2⟩
    rw [← of_decide_eq_true h2]; exact h1
  · intro h
    exact ⟨j, h, decide_eq_true rfl⟩
theorem nodupK_iff : ∀ {ks : List Key}, nodupK ks = true ↔ ks.Nodup
  | [] => by simp [nodupK]
  | k :: ks => by
    rw [nodupK, Bool.and_eq_true, nodupK_iff, List.nodup_cons, Bool.not_eq_true', ← Bool.not_eq_true, hasK_iff]
def pairD : D → Option (Key × D)
  | .tup [k, x] => (keyOf k).map fun j => (j, x)
  | _ => none
def dictOf (kvs : List (Key × D)) : Option D := if kvs.length ≤ 1000 ∧ nodupK (kvs.map (·.1)) = true then some (.dct (kvs.map (·.1)) (kvs.map (·.2))) else none
def dictPD : List D → Option D
  | [.lst ps] => (ps.mapM pairD).bind dictOf
  | _ => none
theorem putK_new {kvs : List (Key × V)} {k : Key} {v : V} (h : k ∉ kvs.map (·.1)) : putK kvs k v = kvs ++ [(k, v)] := by
  unfold putK
  rw [if_neg]
  intro q
  obtain ⟨p, hp, e⟩ := List.any_eq_true.mp q
  exact h (List.mem_map.mpr ⟨p, hp, of_decide_eq_true e⟩)
theorem mergeK_new : ∀ (more kvs : List (Key × V)), ((kvs ++ more).map (·.1)).Nodup → mergeK kvs more = kvs ++ more
  | [], kvs, _ => by simp [mergeK]
  | (k, v) :: more, kvs, h => by
    have e : kvs ++ (k, v) :: more = (kvs ++ [(k, v)]) ++ more := by simp
    have n : k ∉ kvs.map (·.1) := fun q => by
      rw [List.map_append, List.map_cons] at h
      exact (List.nodup_append.mp h).2.2 k q k (.head _) rfl
    show mergeK (putK kvs k v) more = _
    rw [putK_new n, mergeK_new more _ (by rw [← e]; exact h), ← e]
def keysD : D → Option (List D)
  | .dct ks _ => some (ks.map keyD)
  | _ => none
def valsD : D → Option (List D)
  | .dct _ xs => some xs
  | _ => none
def itemsDD : D → Option (List D)
  | .dct ks xs => some ((ks.zip xs).map fun p => .tup [keyD p.1, p.2])
  | _ => none
def gItF (g : D → Option (List D)) (f : SE) : SA := fun G => bnd (f G) fun d => ofO (g d)
end
end EK


namespace EK
open PySem PySem.Spec PyProof.Rows L2
def lenDctD : List D → Option D
  | [.dct ks _] => some (.int (ks.length : Int))
  | _ => none
def copyD : List D → Option D
  | [.dct ks xs] => some (.dct ks xs)
  | _ => none
section
variable {X : Cx} {dl : Dr X.w}
end
end EK


namespace EK
open PySem PySem.Spec PyProof.Rows L2
theorem bb_repr : bootBuiltins "repr" = some (.builtin "repr") := by decide +kernel
def showP (p : PyData) : Option D := if p.showable = true ∧ p.shown.length ≤ sizeLine ∧ p.depth ≤ 60 ∧ p.hasDict = false then some (.str p.shown) else none
def toR : D → Option PyData := toP
def reprD : List D → Option D
  | [d] => (toR d).bind showP
  | _ => none
section
variable {X : Cx} {dl : Dr X.w} {W : WX}
theorem cd_repr (hg : X.A.guards = some []) (hu : X.A.units + 64 < cLine) : CallR X (.builtin "repr") (rCD X dl reprD) := by
  intro pins s sg H xs us Q I r h
  obtain ⟨F, st, ds, d, wd, rp, e, k⟩ := h
  match ds, e with
  | [a], e =>
    have e : (toP a).bind showP = some d := e
    cases ep : toP a with
    | none => rw [ep] at e; cases e
    | some p =>
      rw [ep] at e
      have e : showP p = some d := e
      unfold showP at e
      split at e
      · rename_i hc
        obtain ⟨c1, c2, c3, c4⟩ := hc
        cases e
        obtain ⟨v, vs', rfl, r1, r2⟩ := rp
        cases (show vs' = [] from r2)
        obtain ⟨u, rfl, ru⟩ := vals1 r
        have dp := dp_of wd.sub a v p r1 ep
        have fin : ∀ (h' : Heap) (t tk : Nat), (∀ b o, s.heap.get? b = some o → h'.get? b = some o) → EP X pins sg Q (.str p.shown t) { s with heap := h', toks := tk } := fun h' t tk hk =>
          ⟨.str p.shown, H, I.kept hk, ⟨t, rfl⟩, k F H _ Step.refl wd rfl⟩
        have hs0 : ∀ (t tk : Nat), EP X pins sg Q (.str p.shown t) { s with toks := tk } := fun t tk => fin s.heap t tk fun _ _ e => e
        cases dp with
        | non =>
          cases ru
          exact PySem.P.repr_of_none (hs0 _ _)
        | bl b =>
          cases ru
          cases b with
          | true => exact PySem.P.repr_of_bool (hs0 _ _)
          | false => exact PySem.P.repr_of_bool (hs0 _ _)
        | int i =>
          obtain ⟨t, rfl⟩ := ru
          exact PySem.P.repr_of_int (by simpa [PyData.showable] using c1) (hs0 _ _)
        | str x =>
          obtain ⟨t, rfl⟩ := ru
          exact PySem.P.repr_of_str (hs0 _ _) c2
        | lst h1 h2 =>
          cases ru
          obtain ⟨as, rd⟩ := Dp.reads I _ _ _ (.lst h1 h2) rfl
          exact repr_of_reads' rd c1 (fun z => by rw [c4] at z; cases z) hg (by omega) (fun _ _ e => e) (fun h' u tk hk => fin h' u tk hk) c2
        | tup h1 h2 =>
          cases ru
          obtain ⟨as, rd⟩ := Dp.reads I _ _ _ (.tup h1 h2) rfl
          exact repr_of_reads' rd c1 (fun z => by rw [c4] at z; cases z) hg (by omega) (fun _ _ e => e) (fun h' u tk hk => fin h' u tk hk) c2
      · cases e
  | [], e => cases e
  | _ :: _ :: _, e => cases e
end
def eqS : D → D → Option D
  | .str x, .str y => some (.bl (decide (x = y)))
  | _, _ => none
def neS : D → D → Option D
  | .str x, .str y => some (.bl (!decide (x = y)))
  | _, _ => none
section
variable {X : Cx} {dl : Dr X.w}
theorem od_neS : OpR X (compareOp .NotEq) (rD X dl neS) := by
  refine rd_of op_ne fun x y H Q F s a b d w ra rb e k => ?_
  unfold neS at e
  split at e
  · rename_i u v
    cases e
    cases (show x = .str u from ra)
    cases (show y = .str v from rb)
    refine ⟨rfl, k F H _ Step.refl w ?_⟩
    show V.bl _ = V.bl _
    congr 2
    rw [Bool.eq_iff_iff]
    simp
  · cases e
end
structure FnOkG (P : Program) (w : World) (K : PySem.W.Frag) (mg : Str → Option Value) (base : Heap) (CX : CXT) (k : Nat) (f : Addr) (fd : FuncData) (ps : List Str) (sp : Sp) : Prop where
  len : ∀ vs H Q E, sp vs H Q E → vs.length = ps.length
  run : ∀ (A : Around) (outer : List Env) (s : Shared) (H : Hp) (args : Args) (us : List Value) (vs : List V) (Q : VK) (E : XK), Room k A → A.guards = some [] → Env0 P w K mg base A outer s H →
    BindsTo s fd args (ps.zip us) → Vals vs us → sp vs H Q E → codeAny (model P w) A (.call (.ref f) args) (CR CX outer P w H s Q E) s
theorem FnOkG.of {P : Program} {w : World} {K : PySem.W.Frag} {mg : Str → Option Value} {base : Heap} {CX : CXT} {k : Nat} {f : Addr} {fd : FuncData} {ps : List Str} {sp : Sp} (F : FnOk P w K mg base CX k f fd ps sp) : FnOkG P w K mg base CX k f fd ps sp :=
  ⟨F.len, fun A outer s H args us vs Q E hr _ => F.run A outer s H args us vs Q E hr⟩
theorem fn_ofG {cX : CXT} {P : Program} {w : World} {K : PySem.W.Frag} {mg : Str → Option Value} {base : Heap} {k : Nat} {f : Addr} {nam qual : Str} {params : Arguments} {body : List Stmt} {scope : Scope} {dV kV doc pm cdv ct oc : Value} {an od : Option Addr}
    {osl : Array (Option Value)} {N ps : List Str} {sp : Sp} (lkf : K.lookup f = some ⟨oc, od, .func (PySem.W.fnOf nam qual params body scope dV kV doc pm an cdv ct), osl⟩) (hcd : PySem.W.codeIn K cdv qual = true) (S : FnScope N ps scope)
    (len0 : ∀ vs H Q E, sp vs H Q E → vs.length = ps.length)
    (bodyOk : ∀ (A : Around) (outer : List Env) (s : Shared) (H : Hp) (vs : List V) (Q : VK) (E : XK), Room k (A.deeper (envOfC qual scope s.heap.objs.size f cdv)) → A.guards = some [] → sp vs H Q E →
      ∃ t, PSs (cxOf cX P w K mg base N qual scope f cdv A outer s H E) body t ∧ t { nx := fun _ H' => Q .non H', rt := Q } (start N vs) H) :
    FnOkG P w K mg base cX (k + 1) f (PySem.W.fnOf nam qual params body scope dV kV doc pm an cdv ct) ps sp := by
  refine ⟨len0, fun A outer s H args us vs Q E rm gd en bd rl spq => ?_⟩
  have len1 := len0 _ _ _ _ spq
  have kin : K.In s.heap := en.mod.kin.keeps fun b o e => (en.bs b o e).1
  have nol : s.heap.NoLimit := en.mod.nolimit.keeps fun b o e => (en.bs b o e).1
  have kinds : ∀ y ∈ ps.zip us, scope.names.lookup y.1 = some .local ∨ (scope.names.lookup y.1 = some .cell ∧ ((cellsFrom (s.heap.objs.size + 1) scope.names []).lookup y.1).isSome = true) := fun ⟨n, v⟩ yin => by
    rcases S.par n (List.of_mem_zip yin).1 with z | z
    · exact .inl z
    · exact .inr ⟨z, PySem.W.cellsFrom_some _ _ _ (.inl z)⟩
  refine codeAny_call_function rm.depth (kin _ _ lkf) rfl S.co S.gen rfl (PySem.W.codeRec_of kin hcd) (bd _ _ _ _ ?_)
  refine wpAny_newFunctionEnv_cells S.kind kinds fun env1 he1 s1 x1 => ?_
  subst he1
  refine ⟨nol.keeps x1.toInCall.keep, codeAny_func ?_⟩
  obtain ⟨t, ht, tq⟩ := bodyOk A outer s H vs Q E (rm.deeper _) gd spq
  have I1 : Inv (cxOf cX P w K mg base N qual scope f cdv A outer s H E) [] (start N vs) H s1 := inv_start S rm.hd en len1 rl x1
  refine wpAny_mono (ht.run [] s1 (start N vs) H _ I1 tq) (fun fl s2 z => ?_) fun e s2 z => z
  have done : ∀ {sg' : L2.St} {H2 : Hp} {v : V} {u : Value}, Inv (cxOf cX P w K mg base N qual scope f cdv A outer s H E) [] sg' H2 s2 → RelV v u → Q v H2 → CE outer P w H s Q u s2 :=
    fun {_ H2 v _} J rv q => ⟨v, H2, J.os, J.bare, J.base, J.hok, rv, q⟩
  match fl, z with
  | .ret u, z => obtain ⟨v, sg', H2, J, rv, q⟩ := z; exact done J rv q
  | .next, z => obtain ⟨sg', H2, J, q⟩ := z; exact done (v := V.non) (u := Value.none) J rfl q
  | .brk, z => obtain ⟨_, _, _, q⟩ := z; exact q.elim
  | .cont, z => obtain ⟨_, _, _, q⟩ := z; exact q.elim
/-- the code object of the def at f -/
def codeA (K : PySem.W.Frag) (f : Addr) : Addr := match K.lookup f with
  | some ⟨_, _, .func fd, _⟩ => (match fd.code with
    | .ref c => c
    | _ => 0)
  | _ => 0
section
variable {P : Program} {w : World} {K : PySem.W.Frag} {mg : Str → Option Value} {base : Heap} {x qual : Str} {f : Addr} {fd : FuncData}
theorem FunD_okG {params : Arguments} {body : List Stmt} {scope : Scope} {dvs : List V} {kws : List (Str × V)} {cX : CXT} {N ps : List Str} {k : Nat} {sp : Sp} (F : FunD K x qual params body scope dvs kws f fd) (S : FnScope N ps scope) (len0 : ∀ vs H Q E, sp vs H Q E → vs.length = ps.length)
    (bodyOk : ∀ (cdv : Value) (A : Around) (outer : List Env) (s : Shared) (H : Hp) (vs : List V) (Q : VK) (E : XK), Room k (A.deeper (envOfC qual scope s.heap.objs.size f cdv)) → A.guards = some [] → PySem.W.codeIn K cdv qual = true → cdv = .ref (codeA K f) → sp vs H Q E →
      ∃ t, PSs (cxOf cX P w K mg base N qual scope f cdv A outer s H E) body t ∧ t { nx := fun _ H' => Q .non H', rt := Q } (start N vs) H) : FnOkG P w K mg base cX (k + 1) f fd ps sp := by
  obtain ⟨oc, od, dV, kV, doc, pm, an, cdv, ct, osl, rfl, lkf, hcd, _, _⟩ := F.ex
  refine fn_ofG lkf hcd S len0 fun A outer s H vs Q E rm gd spq => bodyOk cdv A outer s H vs Q E rm gd hcd ?_ spq
  obtain ⟨c, rfl⟩ := He.codeIn_ref hcd
  unfold codeA
  rw [lkf]
/-- .. its promise, where the tables are T -/
def spDT (K : PySem.W.Frag) (mg : Str → Option Value) (w : World) (T : List (Addr × Str)) (n : Nat) (m : List D → M D) : Sp := fun vs H Q E => vs.length = n ∧ ∃ (dl : Dr w) (F : Hp) (ds : List D) (s : DS), dl.tabs = T ∧ Wd dl F H s ∧ RepL K mg dl F ds vs ∧ Go mg K dl E F H (m ds s) fun d _ F' H' => ∀ v, Rep K mg dl F' d v → Q v H'
/-- a def, with no repr around it -/
structure DFnG (P : Program) (w : World) (K : PySem.W.Frag) (mg : Str → Option Value) (base : Heap) (T : List (Addr × Str)) (x : Str) (k n : Nat) (m : List D → M D) : Prop where
  ex : ∃ (f : Addr) (fd : FuncData) (ps : List Str), mg x = some (.ref f) ∧ PySem.W.keepIn K (.ref f) = true ∧ ps.length = n ∧ Binds K fd ps [] ∧ FnOkG P w K mg base (L2.CX P w) k f fd ps (spDT K mg w T n m)
end
section
variable {X : Cx} {dl : Dr X.w} {W : WX} {pos p : Pos} {x : Str} {e : Expr} {es : List Expr} {ra : SA} {k n : Nat} {m : List D → M D}
end
end EK


namespace EK
open PySem PySem.Spec PyProof.Rows L2
/-- all but the tables -/
def hidF (H : Hp) (T : List (Addr × Str)) : Hp := fun b => if b ∈ T.map (·.1) then none else H b
theorem hidF_some {H : Hp} {T : List (Addr × Str)} {b : Addr} {o : HO} (h : hidF H T b = some o) : b ∉ T.map (·.1) ∧ H b = some o := by
  unfold hidF at h
  by_cases z : b ∈ T.map (·.1)
  · rw [if_pos z] at h; cases h
  · rw [if_neg z] at h; exact ⟨z, h⟩
theorem hidF_none {H : Hp} {T : List (Addr × Str)} {b : Addr} (h : H b = none) : hidF H T b = none := by
  unfold hidF
  by_cases z : b ∈ T.map (·.1)
  · rw [if_pos z]
  · rw [if_neg z]; exact h
theorem hidF_tab {H : Hp} {T : List (Addr × Str)} {b : Addr} {q : Str} (h : (b, q) ∈ T) : hidF H T b = none := by
  unfold hidF
  rw [if_pos (List.mem_map.mpr ⟨_, h, rfl⟩)]
theorem hidF_of {H : Hp} {T : List (Addr × Str)} {b : Addr} {o : HO} (hT : ∀ p ∈ T, H p.1 = some (.tbl #[])) (h : H b = some o) (ho : o ≠ .tbl #[]) : hidF H T b = some o := by
  unfold hidF
  rw [if_neg (fun z => by
    obtain ⟨p, hp, e⟩ := List.mem_map.mp z
    have q := hT p hp
    rw [e, h] at q
    exact ho (Option.some.inj q))]
  exact h
theorem hidF_seq {K : PySem.W.Frag} {H : Hp} {T : List (Addr × Str)} {a : Addr} {xs : List V} (hT : ∀ p ∈ T, H p.1 = some (.tbl #[])) (h : SqL K H a xs) : SqL K (hidF H T) a xs := by
  rcases h with (h | ⟨o, h⟩) | h
  · exact .inl (.inl (hidF_of hT h (fun z => by cases z)))
  · exact .inl (.inr ⟨o, hidF_of hT h (fun z => by cases z)⟩)
  · exact .inr h
theorem law_tabs {T : List (Addr × Str)} {wd : World} {dl : Dr wd} {H H' : Hp} {ns : List Int} (hTb : ∀ p ∈ T, H p.1 = some (.tbl #[])) (hOn : ∀ b, H b = none ∨ b ∈ T.map (·.1) ∨ ∃ o xs, H b = some (.frz o (.lst xs))) (bg : Begun dl H H' ns) : TabF T (hidF H T) H' := by
  refine ⟨fun p hp => ⟨#[], bg.kp _ _ (hTb p hp), True.intro, fun pos cv hc => ?_⟩, fun b ps h => ?_, fun b c q h => ?_⟩
  · have z : codeAmong pos [] = some cv := hc
    simp [codeAmong] at z
  · rcases bg.nt b _ h with z | ⟨z, _⟩
    · rcases hOn b with y | y | ⟨o, xs, y⟩
      · rw [z] at y; cases y
      · obtain ⟨p, hp, e⟩ := List.mem_map.mp y
        exact ⟨p.2, by rw [← e]; exact hp⟩
      · rw [z] at y; cases y
    · exact absurd rfl (z ps)
  · rcases bg.nt b _ h with z | ⟨_, z⟩
    · rcases hOn b with y | y | ⟨o, xs, y⟩
      · rw [z] at y; cases y
      · obtain ⟨p, hp, e⟩ := List.mem_map.mp y
        have := hTb p hp
        rw [e, z] at this
        exact absurd this fun w => by
          have w2 := Option.some.inj w
          unfold LamX.CodeO at w2
          cases w2
      · rw [z] at y
        have w2 := Option.some.inj y
        unfold LamX.CodeO at w2
        cases w2
    · exact absurd rfl (z c q)
theorem law_ofG (T : List (Addr × Str)) {P : Program} {w : World} {K : PySem.W.Frag} {mg : Str → Option Value} {base : Heap} {x qual : Str} {st : Stmt} {f : Addr} {fd : FuncData} {N : List Str} {k : Nat} {b : SS} {p : Str} {dvs : List V} {kws : List (Str × V)} (F : FunD K x qual (defArgs st) (defBody st) (defScope st) dvs kws f fd) (S : FnScope N [p] (defScope st)) (hn : 2 ≤ N.length)
    (hb : ∀ (cdv : Value) (A : Around) (outer : List Env) (s : Shared) (H : Hp) (E : XK), Room k (cxOf (L2.CX P w) P w K mg base N qual (defScope st) f cdv A outer s H E).A →
      Takes (cxOf (L2.CX P w) P w K mg base N qual (defScope st) f cdv A outer s H E) (fun cls d _ H => E cls d H) →
      PassesOwn (model P w) (cxOf (L2.CX P w) P w K mg base N qual (defScope st) f cdv A outer s H E).A (cxOf (L2.CX P w) P w K mg base N qual (defScope st) f cdv A outer s H E).env (cxOf (L2.CX P w) P w K mg base N qual (defScope st) f cdv A outer s H E).xe →
      (cxOf (L2.CX P w) P w K mg base N qual (defScope st) f cdv A outer s H E).A.guards = some [] → PySem.W.codeIn K cdv qual = true → cdv = .ref (codeA K f) →
      PSs (cxOf (L2.CX P w) P w K mg base N qual (defScope st) f cdv A outer s H E) (defBody st) (tLaw (cxOf (L2.CX P w) P w K mg base N qual (defScope st) f cdv A outer s H E) (fun cls d _ H => E cls d H) T b)) :
    FnOkG P w K mg base (L2.CX P w) (k + 1) f fd [p] (spLaw K T (runL N.length b)) := by
  refine FunD_okG F S (fun vs H Q E h => by obtain ⟨a, ns, rfl, _⟩ := h; rfl) fun cdv A outer s H vs Q E hr hg hcd hce h => ?_
  obtain ⟨a, ns, rfl, hTb, hOn, hS, hl, ⟨s', go⟩, hQ⟩ := h
  refine ⟨_, hb cdv A outer s H E hr (takes_of rfl rfl rfl rfl) (passes_of rfl) hg hcd hce, ?_⟩
  match N, hn with
  | n1 :: n2 :: N', _ => ?_
  refine ⟨.ref a, rfl, a, ns, rfl, hS, hl, fun dl H' bg => ⟨{ dl with tabs := T }, rfl, ?_⟩⟩
  refine ⟨hidF H T, H', hidF H T, startL (N'.length + 2) ns, ds0 ns, ⟨fun b o e => bg.kp b o (hidF_some e).2, fun c hc => ?_, bg.ok, law_tabs hTb hOn bg⟩, ?_, ?_⟩
  · rcases hc with rfl | rfl | rfl | ⟨q, hq⟩
    · exact hidF_none bg.na
    · exact hidF_none bg.nw
    · exact hidF_none bg.nc
    · exact hidF_tab hq
  · refine ⟨?_, fun i t e => ?_, fun i j t u e1 e2 o1 o2 _ => ?_, Step.refl, Trs.no fun i t e => by
      match i with
      | 0 => cases e
      | 1 => cases e
      | i + 2 =>
        have e : (List.replicate (N'.length + 2 - 2) (none : Option Sl))[i]? = some (some (.tree t)) := e
        rw [List.getElem?_replicate] at e
        split at e <;> cases e⟩
    · show (startL (N'.length + 2) ns).length = (List.set _ 1 _).length
      rw [List.length_set]
      simp [startL, L2.start]
    · match i with
      | 0 => cases e; exact ⟨.ref a, rfl, a, rfl, hidF_seq hTb hS, hl⟩
      | 1 => cases e; exact ⟨.ref dl.a, rfl, rfl⟩
      | i + 2 =>
        have e : (List.replicate (N'.length + 2 - 2) (none : Option Sl))[i]? = some (some t) := e
        rw [List.getElem?_replicate] at e
        split at e <;> cases e
    · match i with
      | 0 => cases e1; cases o1
      | 1 => cases e1; cases o1
      | i + 2 =>
        have e : (List.replicate (N'.length + 2 - 2) (none : Option Sl))[i]? = some (some t) := e1
        rw [List.getElem?_replicate] at e
        split at e <;> cases e
  · unfold runL bnd at go
    rw [show (n1 :: n2 :: N').length = N'.length + 2 from rfl] at go
    cases e : b (startL (N'.length + 2) ns) (ds0 ns) with
    | none => rw [e] at go; cases go
    | some p =>
      obtain ⟨r, s1⟩ := p
      rw [e] at go
      cases r with
      | err x => cases go
      | ok o =>
        cases o with
        | next G => cases go
        | brk G => cases go
        | cont G => cases go
        | ret d =>
          cases go
          exact fun F' H2 v st w r => by
            have r : v = .bl true := r
            rw [r]; exact hQ H2
theorem law_callG {P : Program} {w : World} {K : PySem.W.Frag} {mg mb : Str → Option Value} {cX : CXT} {k : Nat} {fad a : Addr} {cds : List (Addr × Addr)} {fd : FuncData} {xn : Str} {spc : Sp} {sB : Shared} {vl : List Value} {nl : List Int}
    (kin0 : K.In sB.heap) (ns0 : sB.heap.Ns mainGlobals mg) (hb0 : sB.heap.Ns builtinsNs mb) (bb0 : ∀ xn : Str, xn ≠ "__name__" → mb xn = bootBuiltins xn) (lim0 : sB.heap.NoLimit) (hg0 : sB.gens = #[])
    (tb0 : ∀ p ∈ cds, sB.heap.get? p.2 = some { cls := .none, data := .fields #[] }) (nt0 : ∀ p ∈ cds, K.lookup p.2 = none) (Cc : ∀ p ∈ cds, PySem.W.CodeHd sB.heap p.1 p.2)
    (bm0 : ∃ (bm : Addr) (ob : Obj), mg "__builtins__" = some (.ref bm) ∧ bm ≠ builtinsNs ∧ sB.heap.get? bm = some ob ∧ ob.cls = .type "module" ∧ ob.dict = some builtinsNs ∧ ob.data = .plain)
    (ha0 : sB.heap.get? a = some { cls := .type "list", data := .seq vl.toArray }) (ih0 : IntsAre vl nl) (hl0 : nl.length ≤ sizeLine) (rm0 : Room k callerA)
    (Fn : ∀ base : Heap, K.In base → base.Ns mainGlobals mg → (∀ p ∈ cds, LamX.TabB base mg p.1 p.2) → FnOkG P w K mg base cX k fad fd [xn] spc) (bd0 : ∀ (s : Shared) (u : Value), BindsTo s fd ⟨[u], []⟩ [(xn, u)])
    (sp0 : ∀ H : Hp, (∀ p ∈ cds, H p.2 = some (.tbl #[])) → (∀ b, H b = none ∨ b ∈ cds.map (·.2) ∨ ∃ o xs, H b = some (.frz o (.lst xs))) → SqL K H a (nl.map V.int) → spc [.ref a] H (fun v _ => v = .bl true) fun _ _ _ => False)
    (cx0 : ∀ H e s', cX [] H sB (fun _ _ _ => False) e s' → False) :
    codeAny (model P w) callerA (.call (.ref fad) ⟨[.ref a], []⟩) (fun r s' => r = .ok (.ret (.bool true)) ∧ OldK sB.heap s'.heap ∧ s'.os = sB.os ∧ AllBare s'.gens) sB := by
  have rv0 := vals_ints ih0
  have lv0 := ih0.length
  have is0 : ∀ b : Addr, b ∈ cds.map (·.2) → sB.heap.get? b = some { cls := .none, data := .fields #[] } := fun b hb0 => by
    obtain ⟨p, ph0, e⟩ := List.mem_map.mp hb0
    rw [← e]
    exact tb0 p ph0
  have na0 : a ∉ cds.map (·.2) := fun z => by
    have q := is0 a z
    rw [ha0] at q
    have zz : Data.seq vl.toArray _ = Data.fields #[] := congrArg Obj.data (Option.some.inj q)
    cases zz
  have me0 : ∀ p ∈ cds, p.2 ∈ cds.map (·.2) := fun p ph0 => List.mem_map.mpr ⟨p, ph0, rfl⟩
  have main0 : ∀ H : Hp, (∀ p ∈ cds, H p.2 = some (.tbl #[])) → (∀ b, H b = none ∨ b ∈ cds.map (·.2) ∨ ∃ o xs, H b = some (.frz o (.lst xs))) → SqL K H a (nl.map V.int) → HOk P w H sB.heap → (∀ b, H b ≠ none → b = a ∨ b ∈ cds.map (·.2)) → (H a ≠ none → K.lookup a = none) →
      codeAny (model P w) callerA (.call (.ref fad) ⟨[.ref a], []⟩) (fun r s' => r = .ok (.ret (.bool true)) ∧ OldK sB.heap s'.heap ∧ s'.os = sB.os ∧ AllBare s'.gens) sB := by
    intro H hh0 on0 sq0 ok0 at0 lk0
    have bs0 : ∀ {b : Addr} {o : Obj}, sB.heap.get? b = some o → H b = none → (hidT sB.heap H).get? b = some o := fun e n => hidT_get e n
    have nof0 : ∀ {b : Addr} {o : Obj}, sB.heap.get? b = some o → (∀ vl n, o.data ≠ .seq vl n) → o.data ≠ .fields #[] → H b = none := fun {b o} e ha1 ha2 => by
      cases q : H b with
      | none => rfl
      | some u =>
        rcases at0 b (by rw [q]; simp) with ee | ee
        · rw [ee, ha0] at e
          cases e
          exact (ha1 _ _ rfl).elim
        · rw [is0 b ee] at e
          cases e
          exact (ha2 rfl).elim
    have nod0 : ∀ {b : Addr} {o : Obj} {es : Array DictEntry} {epo : Nat}, sB.heap.get? b = some o → o.data = .dict es epo → H b = none := fun {b o es epo} e d => by
      refine nof0 e (fun vl n z => ?_) fun z => ?_
      · rw [d] at z
        cases z
      · rw [d] at z
        cases z
    have nsk0 : ∀ {b : Addr} {m : Str → Option Value}, sB.heap.Ns b m → (hidT sB.heap H).Ns b m := fun {b m} ⟨o, es, epo, e, d, r⟩ => ⟨o, es, epo, bs0 e (nod0 e d), d, r⟩
    have kb0 : K.In (hidT sB.heap H) := fun b o e => bs0 (kin0 b o e) (by
      cases q : H b with
      | none => rfl
      | some u =>
        rcases at0 b (by rw [q]; simp) with ee | ee
        · rw [ee] at e q
          rw [lk0 (by rw [q]; simp)] at e
          cases e
        · obtain ⟨p, ph0, epo⟩ := List.mem_map.mp ee
          rw [← epo, nt0 p ph0] at e
          cases e)
    have md0 : L2.Mod K mg (hidT sB.heap H) := ⟨kb0, nsk0 ns0, ⟨mb, nsk0 hb0, bb0⟩, let ⟨mc, ha1, ha2⟩ := lim0; ⟨mc, nsk0 ha1, ha2⟩⟩
    have tbs : ∀ p ∈ cds, LamX.TabB (hidT sB.heap H) mg p.1 p.2 := fun p ph0 => by
      have tp0 := tb0 p ph0
      refine ⟨?_, ?_, fun z => ?_⟩
      · obtain ⟨o, ul, file, tf, flags, tg, inF, text, tt, ea, r1, r2, r3, r4, r5, r6, r7, r8, hne⟩ := Cc p ph0
        refine ⟨o, ul, file, tf, flags, tg, inF, text, tt, bs0 ea (nof0 ea (fun vl n z => ?_) fun z => ?_), r1, r2, r3, r4, r5, r6, r7, r8, hne⟩
        · rw [r2] at z
          cases z
        · rw [r2] at z
          cases z
          simp at r3
      · obtain ⟨bm, ob, b1, b2, b3, b4, b5, b6⟩ := bm0
        have ng0 : bm ≠ mainGlobals := fun q => by
          obtain ⟨o, es, epo, e, dh0, _⟩ := ns0
          rw [q, e] at b3
          cases b3
          rw [dh0] at b6
          cases b6
        have np0 : bm ≠ p.2 := fun q => by
          rw [q, tp0] at b3
          cases b3
          cases b6
        refine ⟨bm, ob, b1, b2, ng0, np0, bs0 b3 (nof0 b3 (fun vl n z => ?_) fun z => ?_), b4, b5, b6⟩
        · rw [b6] at z
          cases z
        · rw [b6] at z
          cases z
      · obtain ⟨o, es, epo, e, dh0, _⟩ := ns0
        rw [z, tp0] at e
        cases e
        cases dh0
    have en0 : Env0 P w K mg (hidT sB.heap H) callerA [] sB H := ⟨rfl, md0, fun b o e => of_hidT e, Nat.le_of_eq (hidT_size _ _), trivial, fun b hb0 => absurd (show b ∈ ([] : List Addr) from hb0) (by simp), ok0, .of_eq hg0⟩
    refine codeAny_mono ((Fn _ kb0 (nsk0 ns0) tbs).run callerA [] sB H ⟨[.ref a], []⟩ [.ref a] [.ref a] _ _ rm0 rfl en0 (bd0 sB (.ref a)) (.cons rfl .nil) (sp0 H hh0 on0 sq0)) fun r s' h => ?_
    cases r with
    | error e => exact (cx0 H e s' h).elim
    | ok fl =>
      cases fl with
      | next => exact False.elim h
      | brk => exact False.elim h
      | cont => exact False.elim h
      | ret u =>
        obtain ⟨v, H', os0, br0, un0, ok9, rr, q⟩ := h
        have qq : v = .bl true := q
        subst qq
        obtain rfl : u = Value.bool true := rr
        have ky0 : ∀ b o, b ∉ cds.map (·.2) → sB.heap.get? b = some o → s'.heap.get? b = some o := fun b o nb e => by
          cases q : H b with
          | none => exact un0.keep b o e q (by intro z; exact absurd (show b ∈ ([] : List Addr) from z) (by simp)) (by simp)
          | some u =>
            rcases on0 b with z | z | ⟨ob, xs, z⟩
            · rw [q] at z; cases z
            · exact absurd z nb
            · have zz2 := un0.frzs b ob _ z
              obtain ⟨ea, _⟩ := ok0 b _ z
              obtain ⟨eb, _⟩ := ok9 b _ zz2
              rw [e] at ea; cases ea
              exact eb
        have gr0 : ∀ p ∈ cds, ∃ more : Array Value, s'.heap.get? p.2 = some { cls := .none, data := .fields more } := fun p ph0 => by
          obtain ⟨more, z⟩ := un0.tbls p.2 #[] (hh0 p ph0)
          exact ⟨_, ok9 p.2 _ z⟩
        refine ⟨rfl, ⟨fun b o e => ?_, fun b o e => ?_⟩, os0, br0⟩
        · by_cases hb0 : b ∈ cds.map (·.2)
          · obtain ⟨p, ph0, epo⟩ := List.mem_map.mp hb0
            obtain ⟨more, mh0⟩ := gr0 p ph0
            rw [← epo] at e ⊢
            rw [tb0 p ph0] at e
            cases e
            exact .inr (.inl ⟨((Cc p ph0).tab (tb0 p ph0)).isCodeTable, rfl, #[], more, rfl, by rw [Array.empty_append]; exact mh0⟩)
          · exact .inl (ky0 b o hb0 e)
        · by_cases hb0 : b ∈ cds.map (·.2)
          · obtain ⟨p, ph0, epo⟩ := List.mem_map.mp hb0
            obtain ⟨more, mh0⟩ := gr0 p ph0
            rw [← epo]
            exact ⟨_, mh0⟩
          · exact ⟨o, ky0 b o hb0 e⟩
  cases hk0 : K.lookup a with
  | some o =>
    have e := kin0 a o hk0
    rw [ha0] at e
    cases e
    refine main0 (fun b => if b ∈ cds.map (·.2) then some (.tbl #[]) else none) (fun p ph0 => if_pos (me0 p ph0)) (fun b => ?_) (.inr ⟨_, vl.toArray, _, hk0, rfl, rfl, rfl, by rw [List.size_toArray, lv0]; exact hl0, by simpa using rv0⟩) (fun b u z => ?_) (fun b z => ?_) fun z => absurd (show (if a ∈ cds.map (·.2) then some (HO.tbl #[]) else none) = none from if_neg na0) z
    · by_cases hb0 : b ∈ cds.map (·.2)
      · exact .inr (.inl hb0)
      · exact .inl (if_neg hb0)
    · by_cases hb0 : b ∈ cds.map (·.2)
      · have zz := (if_pos hb0).symm.trans z
        cases zz
        exact is0 b hb0
      · have zz := (if_neg hb0).symm.trans z
        cases zz
    · by_cases hb0 : b ∈ cds.map (·.2)
      · exact .inr hb0
      · exact absurd (if_neg hb0) z
  | none =>
    refine main0 (fun b => if b = a then some (.frz { cls := .type "list", data := .seq vl.toArray } (.lst (nl.map V.int))) else if b ∈ cds.map (·.2) then some (.tbl #[]) else none) (fun p ph0 => (if_neg (show ¬ p.2 = a from fun z => na0 (by rw [← z]; exact me0 p ph0))).trans (if_pos (me0 p ph0))) (fun b => ?_)
      (.inl (.inr ⟨{ cls := .type "list", data := .seq vl.toArray }, if_pos rfl⟩)) (fun b u z => ?_) (fun b z => ?_) fun _ => hk0
    · by_cases hb0 : b = a
      · exact .inr (.inr ⟨_, _, if_pos hb0⟩)
      · by_cases hb9 : b ∈ cds.map (·.2)
        · exact .inr (.inl hb9)
        · exact .inl ((if_neg hb0).trans (if_neg hb9))
    · by_cases hb0 : b = a
      · have zz := (if_pos hb0).symm.trans z
        cases zz
        rw [hb0]
        exact ⟨ha0, by rw [List.length_map]; exact hl0, vl, _, rv0, ha0⟩
      · have zz1 := (if_neg hb0).symm.trans z
        by_cases hb9 : b ∈ cds.map (·.2)
        · have zz := (if_pos hb9).symm.trans zz1
          cases zz
          exact is0 b hb9
        · have zz := (if_neg hb9).symm.trans zz1
          cases zz
    · by_cases hb0 : b = a
      · exact .inl hb0
      · by_cases hb9 : b ∈ cds.map (·.2)
        · exact .inr hb9
        · exact absurd ((if_neg hb0).trans (if_neg hb9)) z
/-- what is known of the law's promise at the head's heap -/
theorem walk_ofG {l : PySem.W.OpenLaw} {n k : Nat} {q : Program} {loose : List Str} {XP : (Str → Option Value) → Heap → Prop} {YP : World → Heap → Prop} {d : DefRec} {CX : World → CXT} {x : Str}
    (hn : l.most = some n) (hn2 : n ≤ sizeLine) (hdf : d.params.defaults = []) (hr : Room k callerA)
    (F : ∀ (w : World) (mg : Str → Option Value) (fa : Addr) (h : Heap), YP w h → h.Ns mainGlobals mg → mg d.name = some (.ref fa) →
      ∃ (K : PySem.W.Frag) (fd : FuncData) (cs : List (Addr × Addr)) (sp : Sp), K.In h ∧ (∀ p ∈ cs, h.get? p.2 = some { cls := .none, data := .fields #[] }) ∧ (∀ p ∈ cs, K.lookup p.2 = none) ∧ (∀ p ∈ cs, PySem.W.CodeHd h p.1 p.2) ∧ (∀ (s : Shared) (u : Value), BindsTo s fd ⟨[u], []⟩ [(x, u)]) ∧
        (∀ (H : Hp) (a : Addr) (ns : List Int), ns.length ≤ n → (∀ p ∈ cs, H p.2 = some (.tbl #[])) → (∀ b, H b = none ∨ b ∈ cs.map (·.2) ∨ ∃ o xs, H b = some (.frz o (.lst xs))) → SqL K H a (ns.map V.int) → sp [.ref a] H (fun v _ => v = .bl true) fun _ _ _ => False) ∧
        ∀ base : Heap, K.In base → base.Ns mainGlobals mg → (∀ p ∈ cs, LamX.TabB base mg p.1 p.2) → FnOkG l.prog w K mg base (CX w) k fa fd [x] sp)
    (hCX : ∀ (w : World) (H : Hp) (s : Shared) (e : Value) (s' : Shared), CX w [] H s (fun _ _ _ => False) e s' → False) :
    PySem.W.WalkO q loose XP YP l.row.toRowW d [] (fun f vs => PySem.call f vs) := by
  refine Att.attach_call hn hdf fun w s0 s1 mg mb fa o pm cd doc a vs ns G Y ho hd hcd hmg hobj hints hlen hg => ?_
  obtain ⟨K, fd, cs, sp, KX, hT, nT, C, hb, hsp, hF⟩ := F w mg fa _ Y G.T.g hmg
  exact law_callG KX G.T.g G.T.b G.T.builtins G.T.nolimit hg hT nT C G.T.bmain hobj hints (Nat.le_trans hlen hn2) hr hF hb (fun H hH hO hS => hsp H a ns hlen hH hO hS) fun H e s' => hCX w H s1 e s'
def obsZ (n : Nat) (fa : List He.Fa) (fn : List He.DefD) (fx : List Fx) (gt : List GetD) (tf : List He.Defn) (g : Addr → Option Obj) : AlZ := (obsY fa fn fx gt (He.frT g (He.asD g n)), He.tabsB g tf (He.frT g (He.asD g n)))
def hookZ (n : Nat) (fa : List He.Fa) (fn : List He.DefD) (fx : List Fx) (gt : List GetD) (tf : List He.Defn) : PySem.W.Hook where
  α := AlZ
  obs := fun s => obsZ n fa fn fx gt tf s.heap.get?
  val := fun _ => (((He.valD fn, true), true, gt.map GetD.val), true)
  says := fun _ h => ∃ K : PySem.W.Frag, K.In h ∧ SaysZ fa fn fx gt tf h K
  of := fun _ _ e => ⟨_, He.frT_in, saysZ_of e⟩
  keeps := fun _ _ _ ⟨K, hK, c⟩ k => ⟨K, PySem.W.Frag.In.keeps hK k, ⟨c.y, c.hd, c.out, fun p hp => k _ _ (c.empty p hp)⟩⟩
/-- the tables with the lambdas' names -/
def tabsOf (K : PySem.W.Frag) (tf : List He.Defn) (nm : He.Defn → Str) : List (Addr × Str) := tf.map fun p => ((He.cT K p).2, nm p)
end EK


namespace EK
open PySem PySem.Spec PyProof.Rows L2
/-- super().__init__('..') -/
abbrev supCall (msg : Str) (j : Nat) (p0 p1 p2 p3 p4 : Pos) : Expr := .Call (.Attribute (.Call (.Name "super" p0) [] [] p1) "__init__" p2) [.Constant (.str msg) j p3] [] p4
/-- how it is run, by its place -/
def supRuns (env : Env) (msg fld : Str) (j : Nat) (p0 p1 p2 p3 p4 p5 p6 p7 p8 p9 : Pos) : Prop :=
  (∃ pl : Sem Bool, eval (supCall msg j p0 p1 p2 p3 p4) env = (do
      let ov ← attributeBase (.Call (.Name "super" p0) [] [] p1) "__init__" env (eval (.Call (.Name "super" p0) [] [] p1) env)
      standAt p2.atName
      let (f, first) ← holding [ov] (getMethod ov "__init__" pl)
      callWith p4 f first (backTo p4 (starEach [.Constant (.str msg) j p3] env)) [])) ∧
    swapsWith (supCall msg j p0 p1 p2 p3 p4) none p5.line env = pure false ∧ swapsWith (.Name fld p8) (some (.Attribute (.Name "self" p6) fld p7)) p9.line env = pure false
/-- the body of such an __init__ -/
def supBody (msg fld : Str) (j : Nat) (p0 p1 p2 p3 p4 p5 p6 p7 p8 p9 : Pos) : List Stmt :=
  [.Expr (supCall msg j p0 p1 p2 p3 p4) p5, .Assign [.Attribute (.Name "self" p6) fld p7] (.Name fld p8) p9]
/-- what the written part says of such a class -/
structure SupC (prog : Program) (K : PySem.W.Frag) (C fI : Addr) (fld : Str) : Prop where
  ox : OexC K C
  no : PySem.W.findIn K (.ref C) fld = some none
  iC : PySem.W.findIn K (.ref C) "__init__" = some (some (.ref fI))
  tI : PySem.W.typeIn K (.ref fI) = some (.type "function")
  me : PySem.W.mroIn K C (.ref C) = some true
  ve : PySem.W.subIn K (.ref C) (.type "ValueError") = some true
  su : PySem.W.ks_superIn K C C "__init__" = some (some (.builtin "ValueError.__init__"))
  op : PySem.W.nsIn K cStatics "thirdparty.any" = some none
  ng : PySem.W.nsIn K mainGlobals "super" = some none
  top : (prog.main.scope.names.lookup ("super" : Str)).isSome = false
  fn : ∃ (oc : Value) (od : Option Addr) (osl : Array (Option Value)) (qual : Str) (params : Arguments) (scope : Scope) (dV kV doc pm ct : Value) (an : Option Addr) (cda cc : Addr) (msg : Str) (j : Nat) (p0 p1 p2 p3 p4 p5 p6 p7 p8 p9 : Pos),
    K.lookup fI = some ⟨oc, od, .func (PySem.W.ksFn "__init__" qual params (supBody msg fld j p0 p1 p2 p3 p4 p5 p6 p7 p8 p9) scope dV kV doc pm an (.ref cda) ct cc), osl⟩ ∧ PySem.W.codeIn K (.ref cda) qual = true ∧
    (∃ (ccl : Value) (cdd : Option Addr) (vs : Array Value) (ccs : Array (Option Value)) (file : Str) (tf : Tok), K.lookup cda = some ⟨ccl, cdd, .fields vs, ccs⟩ ∧ vs[2]? = some (.str file tf) ∧ ((prog.main.file : Str) == file) = true) ∧
    (∃ (cl : Value) (cld : Option Addr) (csl : Array (Option Value)), K.lookup cc = some ⟨cl, cld, .cell (some (.ref C)), csl⟩) ∧
    (∀ (s : Shared) (a b : Value), BindsTo s (PySem.W.ksFn "__init__" qual params (supBody msg fld j p0 p1 p2 p3 p4 p5 p6 p7 p8 p9) scope dV kV doc pm an (.ref cda) ct cc) ⟨[a, b], []⟩ [("self", a), (fld, b)]) ∧
    (∃ ar : Arg, (params.posonlyargs ++ params.args).head? = some ar ∧ ar.arg = "self") ∧
    (∀ x ∈ scope.names, x.2 ≠ .cell) ∧ scope.isCoroutine = false ∧ scope.isGenerator = false ∧ scope.kind = .function ∧
    scope.names.lookup ("super" : Str) = some .globalImplicit ∧ scope.names.lookup ("__class__" : Str) = some .free ∧ scope.names.lookup ("self" : Str) = some .local ∧ scope.names.lookup fld = some .local ∧ (fld == ("__debug__" : Str)) = false ∧ (("self" : Str) == fld) = false ∧ ∀ L : Addr, supRuns (PySem.W.ksEnv qual scope L fI (.ref cda) cc) msg fld j p0 p1 p2 p3 p4 p5 p6 p7 p8 p9
section
variable {prog : Program} {w : World} {A : Around} {K : PySem.W.Frag} {C fI e t0 : Addr} {fld : Str} {u : Value} {R : Result → Shared → Prop} {mg mb : Str → Option Value}
open PySem.W PySem.Calls in
theorem sup_initA {s : Shared} {ar : Args} (T : SupC prog K C fI fld) (hbi : ∀ (fd : FuncData) (oc : Value) (od : Option Addr) (osl : Array (Option Value)), K.lookup fI = some ⟨oc, od, .func fd, osl⟩ → (∀ (s : Shared) (a b : Value), BindsTo s fd ⟨[a, b], []⟩ [("self", a), (fld, b)]) → BindsTo s fd ar [("self", .ref e), (fld, u)]) (X : K.In s.heap) (gl : s.heap.Ns mainGlobals mg) (bl : s.heap.Ns builtinsNs mb) (hbb : ∀ x : Str, x ≠ "__name__" → mb x = bootBuiltins x) (lim : s.heap.NoLimit) (room : A.depth < recursionLimit)
    (hKe : K.lookup e = none) (he : s.heap.get? e = some (HandSPX.excO C t0))
    (hq : ∀ h' tk' dx t1, (∀ b o, b ≠ e → s.heap.get? b = some o → h'.get? b = some o) → s.heap.objs.size ≤ dx → dx ≠ e → h'.get? e = some ({ cls := .ref C, dict := some dx, data := .fields #[.ref t1, .none, .none, .none, .bool false, .none] } : Obj) →
      h'.Ns1 dx (fun y => if y = fld then some u else none) → R (.ok (.ret .none)) { s with heap := h', toks := tk' }) :
    codeAny (model prog w) A (.call (.ref fI) ar) R s := by
  obtain ⟨nm, q, N, bs, bm, sn, sub, ab, col, dd, k0, k1, k2, k3, k5, hC, hbm⟩ := T.ox.cls
  obtain ⟨oc, od, osl, qual, params, scope, dV, kV, doc, pm, ct, an, cda, cc, msg, j, p0, p1, p2, p3, p4, p5, p6, p7, p8, p9, lk, hcd, ⟨ccl, cdd, vs, ccs, file, tf, hcode, hvs, hfile⟩, ⟨cl, cld, csl, hcell⟩, hbind, ⟨ar, hp, har⟩, hnc, hco, hgen, hk, hks, hkc, hka, hkf, hfd, hsf, hrun⟩ := T.fn
  have hcl : clsIn K C = some { name := nm, bases := bs, mro := .ref C :: bm, ns := N, qualname := q, hasDict := true, slotNames := sn, subclasses := sub, abstract := ab, collection := col, hasDel := false } := by unfold clsIn; rw [hC] <;> rfl
  refine ks_codeAny_call_defAt room (X _ _ lk) rfl lim (codeRec_of X hcd) rfl (hbi _ _ _ _ lk fun s a b => hbind s a b) hnc (fun y hy => ?_) (fun h0 ns0 k0' => ?_) hco hgen hk
  · simp only [List.mem_cons, List.not_mem_nil, or_false] at hy
    rcases hy with rfl | rfl
    · exact hka
    · exact hkf
  have lte : e < s.heap.objs.size := Heap.lt_size he
  have X0 : K.In h0 := X.keeps k0'
  have he0 := k0' _ _ he
  have hself : (fun x => ([("self", Value.ref e), (fld, u)] : List (Str × Value)).reverse.lookup x) "self" = some (.ref e) := by
    show ([(fld, u), ("self", Value.ref e)] : List (Str × Value)).lookup ("self" : Str) = _
    rw [List.lookup_cons, hsf]
    rfl
  have hfld : (fun x => ([("self", Value.ref e), (fld, u)] : List (Str × Value)).reverse.lookup x) fld = some u := by
    show ([(fld, u), ("self", Value.ref e)] : List (Str × Value)).lookup fld = _
    rw [List.lookup_cons, beq_self_eq_true]
  show _root_.PySem.wpAt (model prog w) _ _ (execs (supBody msg fld j p0 p1 p2 p3 p4 p5 p6 p7 p8 p9) (ksEnv qual scope s.heap.objs.size fI (.ref cda) cc)) _ _ _
  obtain ⟨⟨pl, hev⟩, hsw1, hsw2⟩ := hrun s.heap.objs.size
  refine ks_wpAt_execs_cons (ks_wpAt_Expr_any (ks_wpAt_MethodCall ?_ hev) (by simp [interactive, hk]) hsw1)
  refine ks_wpAt_super_base (env := ksEnv qual scope s.heap.objs.size fI (.ref cda) cc) hks hkc (by decide) rfl (X0 _ _ lk) rfl hp rfl (X0 _ _ hcode) rfl hvs hfile T.top ?_
  refine ks_loadName_global hk hks (loadGlobal_builtin (env := ksEnv qual scope s.heap.objs.size fI (.ref cda) cc) (gl.keeps k0') (mg_none_of X gl T.ng) (bl.keeps k0') ((hbb _ (by decide +kernel)).trans (by decide +kernel)) ⟨rfl, ?_⟩)
  refine wpAny_loadName_free hk hkc rfl ⟨_, X0 _ _ hcell, rfl⟩ ?_
  rw [har]
  refine wpAny_loadName_local hk hka ns0 hself ?_
  refine ks_wpAny_isType_cls (X0 _ _ hC) rfl ⟨rfl, ?_⟩
  refine ks_wpAny_call_super (X0 _ _ hC) rfl he0 rfl (fun c z => by cases z) (looks_mroIn X0 T.me) (fun h1 hso k1' => ?_)
  have kA : ∀ b o, s.heap.get? b = some o → h1.get? b = some o := fun b o z => k1' b o (k0' b o z)
  have X1 : K.In h1 := X0.keeps k1'
  have he1 := k1' _ _ he0
  have I1 : W.InstAt h1 e (HandSPX.excO C t0) C none := ⟨he1, rfl, rfl, trivial⟩
  have LT : Looks (model prog w) h1 (typeOf (.ref e)) (.ref C) := fun A Q E s k q => wpAny_typeOf_ref (k _ _ he1) q
  have su := T.su
  unfold ks_superIn at su
  rw [hcl] at su
  refine kxs_getMethod kxs_ValueError hso (looks_opaque X1 T.op) (l₀ := .ref C :: bm) (fun A Q E s k q => wpAny_bind ((looks_clsIn X1 hcl) A _ E s k (wpAny_pure q))) rfl X1 su (LT.andThen (looks_subIn X1 T.ve)) (ks_ne X1 I1 hcl) (by decide) ?_
  have lt1 : e < h1.objs.size := Heap.lt_size he1
  have kB : ∀ b o, h1.get? b = some o → (h1.push (kxs_mw "ValueError.__init__" e)).get? b = some o := fun b o z => Heap.get?_push_of_some _ z
  have hu : (h1.push (kxs_mw "ValueError.__init__" e)).get? h1.objs.size = some (kxs_mw "ValueError.__init__" e) := Heap.get?_push_at rfl rfl
  refine kxs_callWith (i := "ValueError.__init__") (x := e) rfl (evalArgs_plain ?_)
  show wpAny _ _ (spliced ((false, eval (.Constant (.str msg) j p3) _) :: [])) _ _ _
  refine Calls.spliced_cons (Calls.Constant_str (Calls.spliced_nil ⟨hu, ?_⟩))
  have he2 := kB _ _ he1
  refine wpAny_call (codeAny_of_tree ?_)
  show wpAny _ _ (callAny (.ref h1.objs.size) ⟨[.str msg _], []⟩) _ _ _
  simp only [callAny]
  refine wpAny_bind (wpAny_load hu ?_)
  simp only [show (Value.type "method-wrapper" == Value.type "method" || Value.type "method-wrapper" == Value.type "builtin_function_or_method" || Value.type "method-wrapper" == Value.type "method-wrapper") = true by decide, if_true]
  refine KFB.if_so (by decide) ?_
  refine wpAny_bind (check_bound_init F.excBase_ValueError.toExcCallFacts (kB _ _ (X1 _ _ hC)) he2 rfl ?_)
  refine wpAny_bind (wpAny_pure (wpAny_pure ?_))
  refine ⟨plainId_quiet F.excBase_ValueError.init.plain _, codeAny_builtin F.excBase_ValueError.initEntry ?_⟩
  refine exc_init_tree (cls := .ref C) (t0 := t0) (dv := none) (c2 := .none) (c3 := .none) (b4 := .bool false) he2 (by show 1 ≤ sizeLine; rw [sizeLine_eq]; omega) fun h3 k3' he3 _ => ?_
  have neL : s.heap.objs.size ≠ e := fun z => absurd lte (by rw [← z]; exact Nat.lt_irrefl _)
  have kC : ∀ b o, b ≠ e → h0.get? b = some o → h3.get? b = some o := fun b o hb z => k3' b o hb (kB b o (k1' b o z))
  have ns3 : h3.Ns s.heap.objs.size (fun x => ([("self", Value.ref e), (fld, u)] : List (Str × Value)).reverse.lookup x) := by
    obtain ⟨o, es, ep, z1, z2⟩ := ns0
    exact ⟨o, es, ep, kC _ _ neL z1, z2⟩
  have X3 : K.In h3 := fun b o z => k3' b o (fun y => by rw [y, hKe] at z; cases z) (kB _ _ (X1 b o z))
  show _root_.PySem.wpAt (model prog w) _ _ (execs [.Assign [.Attribute (.Name "self" p6) fld p7] (.Name fld p8) p9] (ksEnv qual scope s.heap.objs.size fI (.ref cda) cc)) _ _ _
  refine ks_wpAt_execs_cons (ks_wpAt_Assign_Attr (wpAt_of_wpAny (wpAny_Name (wpAny_loadName_local hk hkf ns3 hfld (wpAny_Name (wpAny_loadName_local hk hka ns3 hself ?_) (by decide))) hfd)) hsw2)
  have he3' : h3.get? e = some ({ cls := .ref C, data := .fields #[.ref (h1.push (kxs_mw "ValueError.__init__" e)).objs.size, .none, .none, .none, .bool false, .none] } : Obj) := he3
  refine set_plain X3 (ox := { cls := .ref C, data := .fields #[.ref (h1.push (kxs_mw "ValueError.__init__" e)).objs.size, .none, .none, .none, .bool false, .none] }) (od := none) ⟨he3', rfl, rfl, trivial⟩ T.ox.sa ?_
  refine HandSPX.exc_osa X3 he3' hcl (show HandSPX.refsVE (.ref C :: bm) = true from hbm) rfl T.no (fun h' tk' dx k4 dn dne hx hn => ?_)
  refine wpAt_of_wpAny (wpAny_execs_nil ?_)
  refine hq h' tk' dx _ (fun b o hb z => k4 b o hb (kC b o hb (k0' b o z))) ?_ dne hx hn
  have l0 : s.heap.objs.size < h0.objs.size := by
    obtain ⟨o, es, ep, z1, z2⟩ := ns0
    exact Heap.lt_size z1
  obtain ⟨o, es, ep, z1, z2⟩ := ns3
  exact Nat.le_of_lt (Nat.lt_of_lt_of_le (Heap.lt_size z1) dn)
theorem sup_init {s : Shared} (T : SupC prog K C fI fld) (X : K.In s.heap) (gl : s.heap.Ns mainGlobals mg) (bl : s.heap.Ns builtinsNs mb) (hbb : ∀ x : Str, x ≠ "__name__" → mb x = bootBuiltins x) (lim : s.heap.NoLimit) (room : A.depth < recursionLimit)
    (hKe : K.lookup e = none) (he : s.heap.get? e = some (HandSPX.excO C t0))
    (hq : ∀ h' tk' dx t1, (∀ b o, b ≠ e → s.heap.get? b = some o → h'.get? b = some o) → s.heap.objs.size ≤ dx → dx ≠ e → h'.get? e = some ({ cls := .ref C, dict := some dx, data := .fields #[.ref t1, .none, .none, .none, .bool false, .none] } : Obj) →
      h'.Ns1 dx (fun y => if y = fld then some u else none) → R (.ok (.ret .none)) { s with heap := h', toks := tk' }) :
    codeAny (model prog w) A (.call (.ref fI) ⟨[.ref e, u], []⟩) R s := sup_initA T (fun _ _ _ _ _ h => h s _ _) X gl bl hbb lim room hKe he hq
end
section
variable {X : Cx} {e : Expr} {te : TE} {p pos : Pos} {x fld : Str} {C fI : Addr}
theorem pmk_sup {k : Nat} {ta : TA} (T : SupC X.prog X.K C fI fld) (hr : Room (k + 1) X.A) (hg : Gl X x) (hm : X.mg x = some (.ref C)) (ha : PA X [e] ta) (hdb : (x == ("__debug__" : Str)) = false := by decide)
    (hs : starEach [e] X.env = (false, eval e X.env) :: starEach [] X.env := by rfl) :
    PMk X (.Call (.Name x p) [e] [] pos) (fun sg H Q => ta sg H fun vs H1 => ∃ v, vs = [v] ∧ ∀ d, H1 d = none → Q (.ref C) (some d) (upd H1 d (.xd [(fld, v)]))) := by
  intro pins s sg H Q I h
  obtain ⟨nm, q, N, bs, bm, sn, sub, ab, col, dd, k0, k1, k2, k3, k5, hC, hbm⟩ := T.ox.cls
  refine wpAny_Call_Name_kw (ld_glob I hg hm ?_ hdb)
  refine PySem.W.callWith_K (h₀ := X.base) I.ok.mod.kin T.ox.kC (thn (ha.run pos pins s sg H _ I h) fun us s1 ⟨vs, H1, I1, r1, v, ev, q1⟩ => ⟨I1.kIn, ?_⟩) hs
  subst ev
  obtain ⟨u, rfl, ru⟩ := vals1 r1
  show wpAny _ _ (call (.ref C) [u]) _ _ _
  obtain ⟨hp, g, dr, tk, os⟩ := s1
  have kk : ∀ b o, hp.get? b = some o → ((hp.push (PySem.W.kdv_tup [u])).push (PySem.HandSPX.excO C hp.objs.size)).get? b = some o := fun b o e => Heap.get?_push_of_some _ (Heap.get?_push_of_some _ e)
  have hget : ((hp.push (PySem.W.kdv_tup [u])).push (PySem.HandSPX.excO C hp.objs.size)).get? (hp.objs.size + 1) = some (PySem.HandSPX.excO C hp.objs.size) := by heap_get
  have hsz : hp.objs.size ≤ hp.objs.size + 1 := Nat.le_succ _
  have hKe : X.K.lookup (hp.objs.size + 1) = none := by
    cases z : X.K.lookup (hp.objs.size + 1) with
    | none => rfl
    | some o =>
      have := Heap.lt_size (I1.kIn _ _ z)
      exact absurd this (by show ¬ (hp.objs.size + 1 < hp.objs.size); omega)
  obtain ⟨mb, hb1, hb2⟩ := I1.mod.blt
  refine wpAny_call (PySem.HandSPX.call_own F.excBase_ValueError (fun Y => PySem.HandSPX.refsVE_contains Y bm hbm) (I1.kIn _ _ hC) (PySem.W.looks_findIn I1.kIn T.iC) (fun self => PySem.W.bind_fn I1.kIn self T.tI) (by show 1 ≤ sizeLine; rw [sizeLine_eq]; omega)
    (sup_init (mg := X.mg) (mb := mb) T (I1.kIn.keeps kk) ((I1.mod.glob.keeps I1.bk).keeps kk) ((hb1.keeps I1.bk).keeps kk) hb2 (I1.nolimit.keeps kk) (hr.make C [u] []).depth hKe hget fun h2 tk2 dx t1 k2' dn dne hx hn => ⟨rfl, ?_⟩))
  obtain ⟨G, g1, g2⟩ := restrict h2 fun b => decide (b ≠ hp.objs.size + 1)
  have gk : ∀ b, b ≠ hp.objs.size + 1 → G.get? b = h2.get? b := fun b hb => g1 b (decide_eq_true hb)
  have ge : G.get? (hp.objs.size + 1) = none := g2 _ (by simp)
  have dn' : hp.objs.size ≤ dx := Nat.le_trans (Nat.le_trans (Nat.le_succ _) (Nat.le_succ _)) (by simpa using dn)
  have kG : ∀ b o, hp.get? b = some o → G.get? b = some o := fun b o z => by
    have hb : b ≠ hp.objs.size + 1 := fun y => by
      have y2 : b < hp.objs.size := Heap.lt_size z
      rw [y] at y2
      exact absurd y2 (by show ¬ (hp.objs.size + 1 < hp.objs.size); omega)
    rw [gk b hb]
    exact k2' b o hb (kk b o z)
  have new : ObjOk X.prog X.w (upd H1 dx (.xd [(fld, v)])) G dx (.xd [(fld, v)]) := ⟨_, hn.at fun o y => (gk dx dne).trans y, relO_put (fs := []) ru fun g => True.intro⟩
  have J := I1.laid (t' := tk2) (a := dx) (o := .xd [(fld, v)]) (h' := G) kG dn' new
  have nd1 : H1 dx = none := I1.hok.fresh dn'
  refine ⟨hp.objs.size + 1, _, _, ⟨G, g, dr, tk2, os⟩, _, .ref C, some dx, rfl, J, fun b o z => ?_, ge, hx, ⟨rfl, rfl⟩, rfl, rfl, ?_, rfl, I1.bare, raises_own T.ox.exC T.ox.tyC, q1 dx nd1⟩
  · by_cases hb : b = hp.objs.size + 1
    · rw [hb, ge] at z; cases z
    · exact (gk b hb).symm.trans z
  · rw [upd_ne (Ne.symm dne)]
    exact I1.hok.fresh hsz
end
end EK


namespace EK
open PySem PySem.Spec PyProof.Rows L2
section
variable {X : Cx} {dl : Dr X.w} {W : WX} {pos p cp p2 : Pos} {x m fld : Str} {j : Nat} {e : Expr} {f : SE} {C fI : Addr}
/-- raise C('..') -/
def sThrow0 (c : Str) : SS := fun _ => throw ⟨c, [], []⟩
/-- raise C(e) -/
def sThrow1 (c fld : Str) (f : SE) : SS := fun G => bnd (f G) fun d => throw ⟨c, [fld], [d]⟩
/-- what is known of a class without an __init__ of its own -/
structure Exc0 (K : PySem.W.Frag) (mg : Str → Option Value) (c : Str) : Prop where
  ex : ∃ C, mg c = some (.ref C) ∧ PySem.W.excIn K C [.type "ValueError", .type "Exception", .type "BaseException", .type "object"] "ValueError.__new__" = true ∧ PySem.W.keepIn K (.ref C) = true ∧ PySem.W.subIn K (.ref C) (.type "BaseException") = some true ∧ PySem.W.typeIn K (.ref C) = some (.type "type")
structure Exc1 (prog : Program) (K : PySem.W.Frag) (mg : Str → Option Value) (c fld : Str) : Prop where
  ex : ∃ C fI, mg c = some (.ref C) ∧ SupC prog K C fI fld
end
theorem exK_ok {P : Program} {w : World} {H : Hp} {h : Heap} {a : Addr} {cls : Value} {d : Option Addr} {oe : Obj} {vs : Array Value} (e : h.get? a = some oe) (z : Zc cls d oe) (hd : oe.data = .fields vs) : ObjOk P w H h a (ExK a cls d) :=
  ⟨⟨oe, vs, e, z, hd⟩, ⟨oe, e⟩, fun _ _ ⟨o, v, q, r⟩ k => ⟨o, v, k o q, r⟩⟩
theorem exK_at {P : Program} {w : World} {H : Hp} {h : Heap} {a : Addr} {cls : Value} {d : Option Addr} (hok : HOk P w H h) (he : H a = some (ExK a cls d)) : ∃ (oe : Obj) (vs : Array Value), h.get? a = some oe ∧ Zc cls d oe ∧ oe.data = .fields vs := by
  have x : ObjOk P w H h a (.ext fun h => ∃ (oe : Obj) (vs : Array Value), h.get? a = some oe ∧ Zc cls d oe ∧ oe.data = .fields vs) := hok a _ he
  exact x.1
section
variable {X : Cx} {x n : Str} {c : Value} {i : Nat} {body suite : List Stmt} {b₀ : Stmt} {np pos pos' : Pos} {tb : WX → TS} {ts : Addr → Value → Option Addr → TS} {Wout : WX}
/-- what the clause wishes of an exception of the body -/
def wKp (K : PySem.W.Frag) (c : Value) (l i : Nat) (ts : Addr → Value → Option Addr → TS) (Wout : WX) (D : Ends) : WX := fun cls d sg H => sg.length = l →
  ∃ b, PySem.W.exmOne K cls c = some b ∧ (b = true → ∀ a, H a = none → ts a cls d { nx := fun sg' H' => D.nx (sg'.set i none) H', rt := D.rt, bk := fun sg' H' => D.bk (sg'.set i none) H', ct := fun sg' H' => D.ct (sg'.set i none) H' } (sg.set i (some (.ref a))) (upd H a (ExK a cls d))) ∧
    (b = false → Wout cls d sg H)
end
end EK


namespace EK
open PySem PySem.Spec PyProof.Rows L2 LamX
/-- all but the tables stay; more are code objects alone -/
structure ExtM (H H' : Hp) : Prop where
  ex : ExtN H H'
  nw : ∀ b o, H' b = some o → H b = some o ∨ (∃ p1 p2, o = .tbl p1 ∧ H b = some (.tbl p2)) ∨ (∃ c q, o = CodeO c q ∧ H b = none)
theorem ExtM.refl (H : Hp) : ExtM H H := ⟨ExtN.refl H, fun _ _ e => .inl e⟩
section
variable {X : Cx} {pins : List (Addr × Obj)} {σ : L2.St} {H : Hp} {st : Shared}
end
def tLamM (T : List (Addr × Str)) (TT : (XK → Hp → VK → Prop) → Hp → VK → Prop) (t : XK → TE) : TE := fun σ H Q => Tabs T H ∧ ∀ H1, ExtM H H1 → Tabs T H1 → TT (fun E H' Q' => t E σ H' Q') H1 Q
section
variable {X : Cx}
end
end EK


namespace EK
open PySem PySem.Spec PyProof.Rows L2
/-- caught: c = None; try: a() / except x as n: c = n; return c -/
def caughtBody (a c n x : Str) (j : Nat) (q1 q2 q3 p1 p2 p3 p4 p5 p6 p7 p8 p9 r1 r2 : Pos) : List Stmt :=
  [.Assign [.Name c q1] (.Constant .none j q2) q3, .Try [.Expr (.Call (.Name a p1) [] [] p2) p3] [.ExceptHandler (some (.Name x p4)) (some n) [.Assign [.Name c p5] (.Name n p6) p7] p8] [] [] p9, .Return (some (.Name c r1)) r2]
/-- what it makes of the lambda -/
def TCaught (K : PySem.W.Frag) (CS : Addr) : (XK → Hp → VK → Prop) → Hp → VK → Prop := fun tl H Q =>
  tl (fun cls d H' => PySem.W.exmOne K cls (.ref CS) = some true ∧ ∀ e, H' e = none → Q (.ref e) (upd H' e (ExK e cls d))) H fun _ H' => ∃ v, (some (some V.non) : Option (Option V)) = some (some v) ∧ Q v H'
section
variable {X : Cx}
end
/-- kx: the classes that are caught -/
def gCaught (kx : List Str) (f : SE) : SE := fun G s => match f G s with
  | none => none
  | some (.ok _, s') => some (.ok .non, s')
  | some (.err x, s') => if kx.contains x.cls then some (.ok (.exc x.cls x.ns x.xs), s') else none
theorem ExK_nt {a : Addr} {cls : Value} {d : Option Addr} : NotTbl (ExK a cls d) := fun _ z => by unfold ExK at z; cases z
section
variable {X : Cx} {dl : Dr X.w} {W : WX}
end
end EK


namespace EK
open PySem PySem.Spec PyProof.Rows L2
/-- what is known of an exception class whose instances are looked at -/
structure XclF (K : PySem.W.Frag) (C : Addr) : Prop where
  cl : (PySem.W.clsIn K C).isSome = true
  ga : PySem.W.findIn K (.ref C) "__getattribute__" = some (some (.builtin "BaseException.__getattribute__"))
  gg : PySem.W.findIn K (.ref C) "__getattr__" = some none
  su : PySem.W.subIn K (.ref C) (.type "BaseException") = some true
  hd : PySem.W.hasDictIn K C = true
  ha : PySem.W.findIn K (.ref C) "__class__" = some (some (.builtin "object.__class__"))
  hn : PySem.W.specialIn K (.builtin "object.__class__") "__get__" = some (some (.builtin "getset_descriptor.__get__"))
  tk : PySem.W.takesIn K (.builtin "object.__class__") = some true
  mo : PySem.W.mroIn K C (.type "object") = some true
section
variable {X : Cx} {dl : Dr X.w} {W : WX} {e c2 : Expr} {fe : SE} {p pos : Pos}
theorem exc_inst {pins : List (Addr × Obj)} {sg : L2.St} {F H : Hp} {s : Shared} {ds : DS} {c : Str} {ns : List Str} {xs : List D} {v : V} (I : Inv X pins sg H s) (w : Wd dl F H ds) (r : Rep X.K X.mg dl F (.exc c ns xs) v) :
    ∃ (a C : Addr) (vs : List V) (oe : Obj) (od : Option Obj), v = .ref a ∧ X.mg c = some (.ref C) ∧ ns.length = vs.length ∧ RepL X.K X.mg dl F xs vs ∧ PySem.W.InstAt s.heap a oe C od ∧
      (ns ≠ [] → ∃ (d : Addr) (o : Obj) (mA : Str → Option Value), od = some o ∧ H d = some (.xd (ns.zip vs)) ∧ s.heap.get? d = some o ∧ (∀ f, RelO ((ns.zip vs).lookup f) (mA f)) ∧ (∀ f, PySem.W.lookIn f o = some (mA f))) := by
  obtain ⟨a, C, vs, rfl, h2, h3, h4, h5⟩ := r
  rcases h4 with ⟨n1, n2⟩ | ⟨d, n1, n2, n3⟩
  · obtain ⟨oe, vv, g1, g2, g3⟩ := exK_at I.hok (w.sub _ _ n2)
    exact ⟨a, C, vs, oe, none, rfl, h2, h3, h5, ⟨g1, g2.1, by unfold PySem.W.notCls; rw [g3] <;> rfl, by rw [g2.2]; trivial⟩, fun z => absurd n1 z⟩
  · obtain ⟨oe, vv, g1, g2, g3⟩ := exK_at I.hok (w.sub _ _ n2)
    have hx : ObjOk X.prog X.w H s.heap d (.xd (ns.zip vs)) := I.hok d _ (w.sub _ _ n3)
    obtain ⟨mA, hns, hr⟩ := hx
    obtain ⟨od, ho, hl⟩ := lookIn_ns hns
    exact ⟨a, C, vs, oe, some od, rfl, h2, h3, h5, ⟨g1, g2.1, by unfold PySem.W.notCls; rw [g3] <;> rfl, by rw [g2.2]; exact ho⟩, fun _ => ⟨d, od, mA, rfl, w.sub _ _ n3, ho, hr, hl⟩⟩
structure IsiX (K : PySem.W.Frag) (mg : Str → Option Value) (c : Str) (T : Value) (b : Bool) : Prop where
  ex : ∃ C, mg c = some (.ref C) ∧ XclF K C ∧ PySem.W.kitOne K (.ref C) T = some b
def isiXD (cx cs : List (Str × Bool)) (ans : String → Option Bool) : D → Option D
  | .exc c _ _ => (cx.lookup c).map .bl
  | d => isiD cs ans d
def rIsX (X : Cx) (dl : Dr X.w) : List V → Hp → VK → Prop := fun xs H Q => ∃ (F : Hp) (s : DS) (c : Str) (ns : List Str) (ds : List D) (v cv : V) (T : Value) (b : Bool) (C : Addr), xs = [v, cv] ∧ ClsV cv T ∧ Wd dl F H s ∧ Rep X.K X.mg dl F (.exc c ns ds) v ∧ X.mg c = some (.ref C) ∧ XclF X.K C ∧ PySem.W.kitOne X.K (.ref C) T = some b ∧ Q (.bl b) H
theorem call_isX : CallR X (.builtin "isinstance") (rIsX X dl) := by
  intro pins s sg H xs us Q I r h
  obtain ⟨F, ds, c, ns, dd, v, cv, T, b, C, rfl, k, w, rp, hm, xc, e, q⟩ := h
  obtain ⟨u1, u2, rfl, r1, r2⟩ := vals2 r
  have e2 := k.eq r2
  subst e2
  obtain ⟨a, C', vs, oe, od, rfl, m2, _, _, J, _⟩ := exc_inst I w rp
  rw [hm] at m2
  cases m2
  cases (show u1 = Value.ref a from r1)
  exact PySem.W.kia_one (PySem.W.kitx_exc xc.cl xc.ga xc.gg xc.su xc.ha xc.hn xc.tk xc.mo) I.kIn J e (fun z => nomatch z) fun tk => ⟨.bl b, H, I.tok tk, rfl, q⟩
structure FldX (K : PySem.W.Frag) (mg : Str → Option Value) (c n : Str) : Prop where
  ex : ∃ C, mg c = some (.ref C) ∧ XclF K C ∧ PySem.W.findIn K (.ref C) n = some none
def fldXD (cl : List Str) (n : Str) : D → Option D
  | .exc c ns xs => if cl.contains c then (ns.zip xs).lookup n else none
  | _ => none
theorem zipX_lookup {F : Hp} {n : Str} : ∀ {ns : List Str} {xs : List D} {vs : List V} {d : D}, RepL X.K X.mg dl F xs vs → (ns.zip xs).lookup n = some d → ∃ v, (ns.zip vs).lookup n = some v ∧ Rep X.K X.mg dl F d v
  | [], _, _, _, _, e => by simp at e
  | m :: ns, [], _, _, _, e => by simp at e
  | m :: ns, x :: xs, vs, d, r, e => by
    obtain ⟨v, vs', rfl, r1, r2⟩ := r
    rw [List.zip_cons_cons, List.lookup_cons] at e ⊢
    cases h : n == m with
    | true =>
      rw [h] at e
      cases e
      exact ⟨v, rfl, r1⟩
    | false =>
      rw [h] at e
      exact zipX_lookup r2 e
theorem de_fldX {cl : List Str} {n : Str} (hT : ∀ c ∈ cl, FldX X.K X.mg c n) (he : DE X dl W e fe) (hb : attributeBase e n X.env (eval e X.env) = eval e X.env := by rfl) : DE X dl W (.Attribute e n pos) (g1 (fldXD cl n) fe) := by
  refine ⟨fun pins s sg H Q I q => ?_⟩
  obtain ⟨F, q⟩ := q
  have q' : tD X dl W fe sg H (fun v H1 => ∃ (F1 : Hp) (s1 : DS) (d y : D), Wd dl F1 H1 s1 ∧ Rep X.K X.mg dl F1 d v ∧ fldXD cl n d = some y ∧ ∀ u, Rep X.K X.mg dl F1 y u → Q u H1) :=
    ⟨F, q.bnd.imp fun d F1 H1 ⟨st1, q1⟩ v rv => by
      obtain ⟨y, s1, e1, w, q2⟩ := q1.op
      exact ⟨F1, s1, d, y, w, rv, e1, fun u ru => q2 F1 H1 Step.refl w u ru⟩⟩
  refine attr_of hb (thn (he.run pins s sg H _ I q') fun u s1 hh => ?_)
  obtain ⟨x, H1, I1, rx, F1, st, d, y, w, rv, e1, q2⟩ := hh
  match d, e1, rv with
  | .exc c ns xs, e1, rv =>
    have e1 : (if cl.contains c then (ns.zip xs).lookup n else none) = some y := e1
    cases hc : cl.contains c with
    | false => rw [hc] at e1; cases e1
    | true =>
      rw [hc] at e1
      have e1 : (ns.zip xs).lookup n = some y := e1
      obtain ⟨a, C, vs, oe, od, rfl, m2, _, rl, J, hns⟩ := exc_inst I1 w rv
      obtain ⟨C', m1, xc, no⟩ := (hT c (by simpa using hc)).ex
      rw [m1] at m2
      cases m2
      cases (show u = Value.ref a from rx)
      obtain ⟨z, l1, l2⟩ := zipX_lookup rl e1
      obtain ⟨da, o, mA, rfl, hd, ho, hr, hl⟩ := hns (fun z => by subst z; simp at e1)
      obtain ⟨u2, hu, ru⟩ := RelO.some_of (v := z) (o := mA n) (by rw [← l1]; exact hr n)
      exact HandSPX.exc_get I1.kIn J xc.ga xc.gg xc.su (PySem.W.findObj_own xc.hd no rfl (by rw [hl n, hu])) (handed_of ru) ⟨z, H1, I1.tok _, ru, q2 z l2⟩
  | .non, e1, _ => cases e1
  | .bl _, e1, _ => cases e1
  | .int _, e1, _ => cases e1
  | .str _, e1, _ => cases e1
  | .tup _, e1, _ => cases e1
  | .lst _, e1, _ => cases e1
  | .obj _ _ _, e1, _ => cases e1
  | .drw, e1, _ => cases e1
  | .scr _, e1, _ => cases e1
  | .dct _ _, e1, _ => cases e1
  | .dcT _ _, e1, _ => cases e1
  | .dcN _ _, e1, _ => cases e1
  | .exm _ _, e1, _ => cases e1
  | .ptp _, e1, _ => cases e1
end
end EK


namespace EK
open PySem PySem.Spec PyProof.Rows L2
theorem xcl_ok {K : PySem.W.Frag} {x : Str} (h : (Fx.xcl x).ok K = true) : XclF K (He.ga K x) := by
  obtain ⟨h1, h⟩ := He.ba h
  obtain ⟨h2, h⟩ := He.ba h
  obtain ⟨h3, h⟩ := He.ba h
  obtain ⟨h4, h⟩ := He.ba h
  obtain ⟨h5, h6⟩ := He.ba h
  obtain ⟨c1, c2, c3, c4⟩ := clsB_ok h1
  exact ⟨h2, He.eqO_ok h3, He.eqO_ok h4, of_decide_eq_true h5, h6, c1, c2, c3, c4⟩
theorem xis_ok {K : PySem.W.Frag} {mg : Str → Option Value} {x : Str} {t : Ty} {b : Bool} (gl : mg x = some (.ref (He.ga K x))) (c : (Fx.xcl x).ok K = true) (h : (Fx.xis x t b).ok K = true) : IsiX K mg x (t.val K) b :=
  ⟨_, gl, xcl_ok c, of_decide_eq_true h⟩
theorem fldX_ok {K : PySem.W.Frag} {mg : Str → Option Value} {x n : Str} (gl : mg x = some (.ref (He.ga K x))) (c : (Fx.xcl x).ok K = true) (h : (He.Fa.noat x n).ok K = true) : FldX K mg x n := ⟨_, gl, xcl_ok c, He.eqO_ok h⟩
theorem exc0_ok {K : PySem.W.Frag} {mg : Str → Option Value} {x : Str} (gl : mg x = some (.ref (He.ga K x))) (h : (He.Fa.exc x).ok K = true) : Exc0 K mg x := by
  obtain ⟨h1, h⟩ := He.ba h
  obtain ⟨h2, h⟩ := He.ba h
  obtain ⟨h3, h4⟩ := He.ba h
  exact ⟨_, gl, h1, h2, of_decide_eq_true h3, of_decide_eq_true h4⟩
theorem oexB_ok {K : PySem.W.Frag} {C : Addr} (h : oexB K C = true) : OexC K C := by
  obtain ⟨h1, h⟩ := He.ba h
  obtain ⟨h2, h⟩ := He.ba h
  obtain ⟨h3, h⟩ := He.ba h
  obtain ⟨h4, h5⟩ := He.ba h
  refine ⟨?_, He.eqO_ok h2, of_decide_eq_true h3, of_decide_eq_true h4, h5⟩
  split at h1
  · rename_i t dd cd sl ho
    obtain ⟨u1, u2⟩ := He.ba h1
    have e1 : t = "type" := of_decide_eq_true u1
    subst e1
    split at u2
    · rename_i C' bm k0 k1 k2 k3 n k5 hm hs
      obtain ⟨v1, v2⟩ := He.ba u2
      obtain ⟨v3, v4⟩ := He.ba v2
      obtain ⟨v5, v6⟩ := He.ba v4
      obtain ⟨v7, v8⟩ := He.ba v6
      have e2 : C' = C := of_decide_eq_true v1
      have e3 : n = "ValueError.__new__" := of_decide_eq_true v3
      subst e2 e3
      obtain ⟨nm, bs, mro, ns, qn, hd, sn, sub, ab, col, del⟩ := cd
      dsimp only at hm v5 v7
      subst hm
      have e4 : del = false := by simpa using v5
      subst e4 v7
      have es : sl = #[k0, k1, k2, k3, some (.builtin "ValueError.__new__"), k5] := by
        obtain ⟨l⟩ := sl
        exact congrArg Array.mk hs
      subst es
      exact ⟨nm, qn, ns, bs, bm, sn, sub, ab, col, dd, k0, k1, k2, k3, k5, ho, v8⟩
    · cases u2
  · cases h1
theorem fileB_ok {vs : Array Value} {file : Str} (h : fileB vs file = true) : ∃ tf, vs[2]? = some (.str file tf) := by
  unfold fileB at h
  split at h
  · rename_i f tf hf
    have ef : f = file := of_decide_eq_true h
    exact ⟨tf, by rw [hf, ef]⟩
  · cases h
/-- what the text says of it, by a look at it -/
structure ExcT (prog : Program) (d : ExcD) : Prop where
  top : (prog.main.scope.names.lookup ("super" : Str)).isSome = false
  file : ((prog.main.file : Str) == d.file) = true
  body : ∃ (msg : Str) (j : Nat) (p0 p1 p2 p3 p4 p5 p6 p7 p8 p9 : Pos), d.body = supBody msg d.fld j p0 p1 p2 p3 p4 p5 p6 p7 p8 p9 ∧ ∀ (L f cda cc : Addr), supRuns (PySem.W.ksEnv d.qual d.scope L f (.ref cda) cc) msg d.fld j p0 p1 p2 p3 p4 p5 p6 p7 p8 p9
  bind : ∀ (body : List Stmt) (kV doc pm ct cdv : Value) (an : Option Addr) (cc : Addr) (s : Shared) (a b : Value), BindsTo s (PySem.W.ksFn "__init__" d.qual d.params body d.scope .none kV doc pm an cdv ct cc) ⟨[a, b], []⟩ [("self", a), (d.fld, b)]
  arg : ∃ ar : Arg, (d.params.posonlyargs ++ d.params.args).head? = some ar ∧ ar.arg = "self"
  sc : (∀ x ∈ d.scope.names, x.2 ≠ .cell) ∧ d.scope.isCoroutine = false ∧ d.scope.isGenerator = false ∧ d.scope.kind = .function ∧
    d.scope.names.lookup ("super" : Str) = some .globalImplicit ∧ d.scope.names.lookup ("__class__" : Str) = some .free ∧ d.scope.names.lookup ("self" : Str) = some .local ∧ d.scope.names.lookup d.fld = some .local ∧ (d.fld == ("__debug__" : Str)) = false ∧ (("self" : Str) == d.fld) = false
theorem ExcD.supC {prog : Program} {K : PySem.W.Frag} {d : ExcD} (t : ExcT prog d) (h : d.ok K = true) (e : fnV K (initA K d.cls) = d.val) : SupC prog K (He.ga K d.cls) (initA K d.cls) d.fld := by
  obtain ⟨h1, h⟩ := He.ba h
  obtain ⟨h2, h⟩ := He.ba h
  obtain ⟨h3, h⟩ := He.ba h
  obtain ⟨h4, h⟩ := He.ba h
  obtain ⟨h5, h⟩ := He.ba h
  obtain ⟨h6, h⟩ := He.ba h
  obtain ⟨h7, h⟩ := He.ba h
  obtain ⟨h8, h⟩ := He.ba h
  obtain ⟨h9, h⟩ := He.ba h
  refine ⟨oexB_ok h1, He.eqO_ok h2, He.eqO_ok h3, of_decide_eq_true h4, of_decide_eq_true h5, of_decide_eq_true h6, He.eqO_ok h7, He.eqO_ok h8, He.eqO_ok h9, t.top, ?_⟩
  unfold fnV at e
  cases hl : K.lookup (initA K d.cls) with
  | none => rw [hl] at h; cases h
  | some ob =>
    rcases ob with ⟨u1, u2, dat, u3⟩
    rw [hl] at h e
    cases dat
    case func fd =>
      rcases fd with ⟨m1, m2, m3, m4, m5, m6, m7, m8, m9, m10, m11, m12, m13, m14, m15⟩
      unfold ExcD.val at e
      simp only [Option.some.injEq, Prod.mk.injEq] at e
      rcases e with ⟨g1, g2, g3, g4, g5, g6, g7, g8⟩
      subst g1 g2 g3 g4 g5 g6 g8
      match m13, m7, g7, h with
      | .ref cda, [(nm, cc)], g7, h =>
        have en : nm = "__class__" := by simpa using g7
        subst en
        obtain ⟨y1, y2⟩ := He.ba h
        obtain ⟨y5, y0⟩ := He.ba y1
        have e8 : m8 = .none := by
          cases m8 <;> first | rfl | cases y0
        subst e8
        obtain ⟨y3, y4⟩ := He.ba y2
        obtain ⟨msg, j, p0, p1, p2, p3, p4, p5, p6, p7, p8, p9, eb, er⟩ := t.body
        rw [eb]
        refine ⟨u1, u2, u3, d.qual, d.params, d.scope, .none, m9, m10, m11, m14, m12, cda, cc, msg, j, p0, p1, p2, p3, p4, p5, p6, p7, p8, p9, rfl, y5, ?_, ?_, fun s a b => t.bind _ m9 m10 m11 m14 (.ref cda) m12 cc s a b, t.arg, t.sc.1, t.sc.2.1, t.sc.2.2.1, t.sc.2.2.2.1, t.sc.2.2.2.2.1, t.sc.2.2.2.2.2.1, t.sc.2.2.2.2.2.2.1, t.sc.2.2.2.2.2.2.2.1, t.sc.2.2.2.2.2.2.2.2.1, t.sc.2.2.2.2.2.2.2.2.2, fun L => er L _ cda cc⟩
        · split at y3
          · rename_i a1 a2 vs a3 hk
            obtain ⟨tf, hf⟩ := fileB_ok y3
            exact ⟨a1, a2, vs, a3, d.file, tf, hk, hf, t.file⟩
          · cases y3
        · split at y4
          · rename_i a1 a2 Q a3 hk
            have eq : Q = He.ga K d.cls := of_decide_eq_true y4
            rw [eq] at hk
            exact ⟨a1, a2, a3, hk⟩
          · cases y4
    all_goals cases h
def asZ (g : Addr → Option Obj) (n : Nat) : List Addr := cStatics :: He.asD g n
def obsW (n : Nat) (fa : List He.Fa) (fn : List He.DefD) (fx : List Fx) (gt : List GetD) (tf : List He.Defn) (xd : List ExcD) (g : Addr → Option Obj) : AlW :=
  ((obsY fa fn fx gt (He.frT g (asZ g n)), He.tabsB g tf (He.frT g (asZ g n))), ((xd.all fun d => d.ok (He.frT g (asZ g n))) && decide ((tf.map fun p => (He.cT (He.frT g (asZ g n)) p).2).Nodup)), xd.map fun d => fnV (He.frT g (asZ g n)) (initA (He.frT g (asZ g n)) d.cls))
def hookW (n : Nat) (fa : List He.Fa) (fn : List He.DefD) (fx : List Fx) (gt : List GetD) (tf : List He.Defn) (xd : List ExcD) : PySem.W.Hook where
  α := AlW
  obs := fun s => obsW n fa fn fx gt tf xd s.heap.get?
  val := fun _ => ((((He.valD fn, true), true, gt.map GetD.val), true), true, xd.map ExcD.val)
  says := fun _ h => ∃ K : PySem.W.Frag, K.In h ∧ SaysW fa fn fx gt tf xd h K
  of := fun _ s e => ⟨_, He.frT_in, saysZ_of (as := asZ s.heap.get? n) (congrArg (fun z : AlW => z.1) e), (He.ba (congrArg (fun z : AlW => z.2.1) e)).1, congrArg (fun z : AlW => z.2.2) e, of_decide_eq_true (He.ba (congrArg (fun z : AlW => z.2.1) e)).2⟩
  keeps := fun _ _ _ ⟨K, hK, c⟩ k => ⟨K, PySem.W.Frag.In.keeps hK k, ⟨⟨c.z.y, c.z.hd, c.z.out, fun p hp => k _ _ (c.z.empty p hp)⟩, c.x, c.v, c.dj⟩⟩
theorem SaysW.exc1 {prog : Program} {fa : List He.Fa} {fn : List He.DefD} {fx : List Fx} {gt : List GetD} {tf : List He.Defn} {xd : List ExcD} {h : Heap} {K : PySem.W.Frag} {mg : Str → Option Value} (c : SaysW fa fn fx gt tf xd h K) (i : Nat) {d : ExcD} (gl : mg d.cls = some (.ref (He.ga K d.cls))) (t : ExcT prog d) (hi : xd[i]? = some d := by rfl) : Exc1 prog K mg d.cls d.fld := by
  have e2 : (xd.map fun d => fnV K (initA K d.cls))[i]? = (xd.map ExcD.val)[i]? := by rw [c.v]
  rw [List.getElem?_map, List.getElem?_map, hi] at e2
  exact ⟨_, _, gl, ExcD.supC t (List.all_eq_true.mp c.x d (List.mem_of_getElem? hi)) (Option.some.inj e2)⟩
end EK


namespace EK
open PySem PySem.Spec PyProof.Rows L2
def pickL {α : Type} (is : List Nat) (zs : List α) : List α := is.filterMap fun i => zs[i]?
/-- a def called with n values and keywords ks; is: where the further parameters stand among the keywords -/
structure DFnK (P : Program) (w : World) (K : PySem.W.Frag) (mg : Str → Option Value) (base : Heap) (x : Str) (k n : Nat) (ks : List Str) (is : List Nat) (N : Nat) (m : List D → M D) : Prop where
  ex : ∃ (f : Addr) (fd : FuncData) (ps : List Str), mg x = some (.ref f) ∧ PySem.W.keepIn K (.ref f) = true ∧ ps.length = N ∧ KBn K fd ps n ks (fun us ws => us ++ pickL is ws) (fun vs zs => vs ++ pickL is zs) ∧ FnOk P w K mg base (L2.CX P w) k f fd ps (spD K mg w N m)
section
variable {X : Cx} {dl : Dr X.w} {W : WX} {pos p : Pos} {x : Str} {e : Expr} {es : List Expr} {kws : List Keyword} {ra rk : SA} {k n N : Nat} {ks : List Str} {is : List Nat} {m : List D → M D}
abbrev DK (X : Cx) (dl : Dr X.w) (W : WX) (kws : List Keyword) (f : SA) : Prop := PK X kws (tDA X dl W f)
theorem dk_nil : DK X dl W [] sa0 := ⟨fun pos pins s sg H Q I q => by
  obtain ⟨F, q⟩ := q
  exact pk_nil.run pos pins s sg H Q I (q.rt [] rfl)⟩
theorem dk_cons {nm : Option Str} {kpos : Pos} {f : SE} (he : DE X dl W e f) (hr : DK X dl W kws rk) : DK X dl W (⟨nm, e, kpos⟩ :: kws) (saC f rk) := ⟨fun pos pins s sg H Q I q => by
  refine (pk_cons he hr).run pos pins s sg H Q I ?_
  obtain ⟨F, q⟩ := q
  refine ⟨F, q.bnd.imp fun d F1 H1 ⟨st1, q1⟩ v rv => ⟨F1, q1.bnd.imp fun ds F2 H2 ⟨st2, q2⟩ vs rvs => ?_⟩⟩
  exact q2.rt (v :: vs) ⟨v, vs, rfl, Rep.mono st2.fs d v rv, rvs⟩⟩
def gCallK (n l N : Nat) (is : List Nat) (m : List D → M D) (ra rk : SA) : SE := fun G => bnd (ra G) fun ds => bnd (rk G) fun es => if ds.length = n ∧ es.length = l ∧ (ds ++ pickL is es).length = N then m (ds ++ pickL is es) else fail
end
/-- what is known of the def that catches -/
structure CaughtF (K : PySem.W.Frag) (mg : Str → Option Value) (x a ke : Str) : Prop where
  ex : ∃ (fd : FuncData) (pg : Arguments) (sg : Scope) (c n : Str) (j : Nat) (q1 q2 q3 p1 p2 p3 p4 p5 p6 p7 p8 p9 r1 r2 : Pos),
    FunD K x x pg (caughtBody a c n ke j q1 q2 q3 p1 p2 p3 p4 p5 p6 p7 p8 p9 r1 r2) sg [] [] (He.ga K x) fd ∧ Binds K fd [a] [] ∧ FnScope [a, c, n] [a] sg ∧ Vis sg a ∧ mg x = some (.ref (He.ga K x)) ∧ mg ke = some (.ref (He.ga K ke)) ∧
    sg.names.lookup ke = some .globalImplicit ∧ (ke == ("__debug__" : Str)) = false ∧ [a, c, n].Nodup ∧ sg.names.lookup c = some .local ∧ sg.names.lookup n = some .local ∧ (c == ("__debug__" : Str)) = false ∧ (n == ("__debug__" : Str)) = false ∧ (c == ("__classdict__" : Str)) = false ∧ (n == ("__classdict__" : Str)) = false
section
variable {X : Cx} {dl : Dr X.w} {W : WX}
end
end EK


namespace EK
open PySem PySem.Spec PyProof.Rows L2
section
variable {K : PySem.W.Frag} {tf : List He.Defn} {nm : He.Defn → Str} {H : Hp}
theorem tabs_on (h : ∀ p ∈ tf.map (He.cT K), H p.2 = some (.tbl #[])) : ∀ p ∈ tabsOf K tf nm, H p.1 = some (.tbl #[]) := fun p hp => by
  obtain ⟨d, hd, rfl⟩ := List.mem_map.mp hp
  exact h (He.cT K d) (List.mem_map.mpr ⟨d, hd, rfl⟩)
theorem tabs_map : (tabsOf K tf nm).map (·.1) = (tf.map (He.cT K)).map (·.2) := by
  unfold tabsOf
  rw [List.map_map, List.map_map]
  rfl
theorem tabs_on2 (h : ∀ b, H b = none ∨ b ∈ (tf.map (He.cT K)).map (·.2) ∨ ∃ o xs, H b = some (.frz o (.lst xs))) : ∀ b, H b = none ∨ b ∈ (tabsOf K tf nm).map (·.1) ∨ ∃ o xs, H b = some (.frz o (.lst xs)) := by
  rw [tabs_map]; exact h
/-- the tables in the base -/
abbrev TBs (K : PySem.W.Frag) (tf : List He.Defn) (mg : Str → Option Value) (base : Heap) : Prop := ∀ p ∈ tf.map (He.cT K), LamX.TabB base mg p.1 p.2
theorem TBs.at {mg : Str → Option Value} {base : Heap} (h : TBs K tf mg base) {d : He.Defn} (hd : d ∈ tf) : LamX.TabB base mg (He.cT K d).1 (He.cT K d).2 := h _ (List.mem_map.mpr ⟨d, hd, rfl⟩)
end
end EK


namespace EK
open PySem PySem.Spec PyProof.Rows L2
theorem no_clx {K : PySem.W.Frag} {mg : Str → Option Value} {T : Value} : ∀ c b, ([] : List (Str × Bool)).lookup c = some b → IsiX K mg c T b := fun _ _ h => nomatch h
theorem one_clx {K : PySem.W.Frag} {mg : Str → Option Value} {T : Value} {x : Str} {k : Bool} {l : List (Str × Bool)} (h0 : IsiX K mg x T k) (h1 : ∀ c b, l.lookup c = some b → IsiX K mg c T b) : ∀ c b, ((x, k) :: l).lookup c = some b → IsiX K mg c T b := fun c b h => by
  rw [List.lookup_cons] at h
  cases e : c == x with
  | true =>
    rw [e] at h
    cases h
    rw [eq_of_beq e]; exact h0
  | false => rw [e] at h; exact h1 c b h
theorem no_flx {K : PySem.W.Frag} {mg : Str → Option Value} {n : Str} : ∀ c ∈ ([] : List Str), FldX K mg c n := fun _ h => (nomatch h)
theorem one_flx {K : PySem.W.Frag} {mg : Str → Option Value} {n x : Str} {l : List Str} (h0 : FldX K mg x n) (h1 : ∀ c ∈ l, FldX K mg c n) : ∀ c ∈ x :: l, FldX K mg c n := fun c h => by
  rcases List.mem_cons.mp h with e | h
  · rw [e]; exact h0
  · exact h1 c h
end EK


namespace EK
open PySem PySem.Spec PyProof.Rows L2
section
variable {X : Cx} {dl : Dr X.w} {W : WX} {pos : Pos}
def negD : D → Option D
  | .int i => some (.int (-i))
  | _ => none
theorem ud_neg : UnR X (unaryOp .USub) (rUD X dl negD) := by
  intro pins s sg H x v Q I rx q
  obtain ⟨F, st, a, d, w, ra, e, k⟩ := q
  match a, e with
  | .int i, e =>
    cases e
    cases (show x = .int i from ra)
    exact un_neg pins s sg H (.int i) v Q I rx ⟨i, rfl, k F H _ Step.refl w rfl⟩
  | .non, e => cases e
  | .bl _, e => cases e
  | .str _, e => cases e
  | .tup _, e => cases e
  | .lst _, e => cases e
  | .obj _ _ _, e => cases e
  | .drw, e => cases e
  | .scr _, e => cases e
  | .dct _ _, e => cases e
  | .dcT _ _, e => cases e
  | .dcN _ _, e => cases e
  | .exm _ _, e => cases e
  | .ptp _, e => cases e
  | .exc _ _ _, e => cases e
end
end EK


namespace EK
open PySem PySem.Spec PyProof.Rows L2
section
variable {J : It} {n : Nat} {Gd : Hp → Prop} {Y : Nat → Hp → V → Hp → Prop}
end
section
variable {X : Cx} {dl : Dr X.w} {W : WX} {pos p tpos : Pos}
/-- the pairs, one by one -/
def dcM (f : SG) (u : ST) (hk hv : SE) (G : Sls) : List D → M (List (Key × D))
  | [] => ret []
  | d :: ds => bnd (ofO (f G d)) fun G' => bnd (u G') fun k => if k then bnd (hk G') fun y => bnd (hv G') fun z => bnd (ofO (keyOf y)) fun j => bnd (dcM f u hk hv G ds) fun r => ret ((j, z) :: r) else dcM f u hk hv G ds
def gDcP (vs : List Nat) (it : SA) (f : SG) (u : ST) (hk hv : SE) : Sls → M (List (Key × D)) := fun G => bnd (it G) fun ds => noErr (dcM f u hk hv (wipeG G vs) ds)
def gDc (vs : List Nat) (it : SA) (f : SG) (u : ST) (hk hv : SE) : SE := fun G => bnd (gDcP vs it f u hk hv G) fun kvs => ofO (dictOf kvs)
def NewDk (X : Cx) (dl : Dr X.w) (H : Hp) (kvs : List (Key × D)) (F' H' : Hp) (a : Addr) : Prop :=
  H a = none ∧ F' a = none ∧ ∃ vs : List V, H' a = some (.dK (mergeK [] ((kvs.map (·.1)).zip vs))) ∧ kvs.length = vs.length ∧ RepL X.K X.mg dl F' (kvs.map (·.2)) vs
def tDk (X : Cx) (dl : Dr X.w) (W : WX) (f : Sls → M (List (Key × D))) : TE := fun sg H Q => ∃ F, tGF X dl W F f (fun kvs F' H' => ∀ a, NewDk X dl H kvs F' H' a → Q (.ref a) H') sg H
theorem none_step {F H F' H' : Hp} {b : Addr} {o : HO} (st : Step dl F H F' H') (h : F b = none) (hb : H b = some o) : F' b = none := by
  cases q : F' b with
  | none => rfl
  | some u =>
    rcases st.nw b u q with z | z
    · rw [h] at z; cases z
    · rw [hb] at z; cases z
theorem Wd.lockD {F H : Hp} {s : DS} (w : Wd dl F H s) {p : Addr} {o : HO} (nd : ¬ dl.has p) (h : F p = none) (ho : NotTbl o := by intro _ z; cases z) : Wd dl (upd F p o) (upd H p o) s := by
  refine ⟨fun b u e => ?_, fun b hb => ?_, ?_, w.tb.upd (fun b u e => by rw [upd_ne (ne_of_none e h)]; exact e) (fun q hq z => nd (.inr (.inr (.inr ⟨q.2, by rw [← z]; exact hq⟩)))) ho (.inr upd_same)⟩
  · by_cases z : b = p
    · subst z; rw [upd_same] at e ⊢; exact e
    · rw [upd_ne z] at e ⊢; exact w.sub b u e
  · rw [upd_ne (fun z => nd (by rw [← z]; exact hb))]; exact w.off b hb
  · obtain ⟨d1, d2, d3, d4⟩ := w.dr
    exact ⟨by rw [upd_ne (fun z => nd (by rw [← z]; exact .inl rfl))]; exact d1, by rw [upd_ne (fun z => nd (by rw [← z]; exact .inr (.inl rfl)))]; exact d2, by rw [upd_ne (fun z => nd (by rw [← z]; exact .inr (.inr (.inl rfl))))]; exact d3, d4⟩
theorem Step.lockD {F H F1 H1 : Hp} (st : Step dl F H F1 H1) {p : Addr} {o : HO} (h0 : H p = none) (h : F1 p = none) : Step dl F H (upd F1 p o) (upd H1 p o) :=
  ⟨fun b u e => by rw [upd_ne (ne_of_none (st.fs b u e) h)]; exact st.fs b u e, fun b u nb e => by rw [upd_ne (ne_of_none e h0)]; exact st.hs b u nb e, fun b u e => by
    by_cases z : b = p
    · subst z; exact .inr h0
    · rw [upd_ne z] at e; exact st.nw b u e, fun b e => by
    by_cases z : b = p
    · subst z; exact h0
    · rw [upd_ne z] at e; exact st.al b e⟩
def textsK : List Key → Option (List Str)
  | [] => some []
  | .inr x :: ks => (textsK ks).map (x :: ·)
  | .inl _ :: _ => none
def sortedDc : List D → Option D
  | [.dct ks _] => (textsK ks).bind fun xs => if xs.length < 64 then some (.lst ((sortS xs).map D.str)) else none
  | _ => none
end
end EK


namespace EK
open PySem PySem.Spec PyProof.Rows L2
def TupC (K : PySem.W.Frag) (mg : Str → Option Value) (x : Str) (zs : List Str) : Prop :=
  ∃ (a : Addr) (o : Obj) (its : Array Value) (n : Nat), mg x = some (.ref a) ∧ K.lookup a = some o ∧ o.cls = .type "tuple" ∧ o.data = .seq its n ∧ its.size ≤ 1000 ∧ Vals (zs.map V.str) its.toList
section
variable {X : Cx} {dl : Dr X.w} {W : WX} {pos : Pos}
def gTupS (zs : List Str) : SE := fun _ => ret (.tup (zs.map D.str))
end
end EK


namespace EK
open PySem PySem.Spec PyProof.Rows L2
section
variable {X : Cx} {dl : Dr X.w} {W : WX} {pos : Pos}
def gPairs : List (SE × SE) → Sls → M (List (Key × D))
  | [], _ => ret []
  | p :: r, G => bnd (p.1 G) fun y => bnd (p.2 G) fun z => bnd (ofO (keyOf y)) fun j => bnd (gPairs r G) fun rest => ret ((j, z) :: rest)
def dictOf15 (kvs : List (Key × D)) : Option D := if kvs.length ≤ 15 then dictOf kvs else none
def gDisp (l : List (SE × SE)) : SE := fun G => bnd (gPairs l G) fun kvs => ofO (dictOf15 kvs)
abbrev trsOf (X : Cx) (dl : Dr X.w) (W : WX) (l : List (SE × SE)) : List (TE × TE) := l.map fun p => (tD X dl W p.1, tD X dl W p.2)
theorem pairs_rd : ∀ (l : List (SE × SE)) {F : Hp} {sg : L2.St} {H : Hp} {Q : List (V × V) → Hp → Prop},
    tGF X dl W F (gPairs l) (fun kvs F' H' => ∀ vs : List V, kvs.length = vs.length → RepL X.K X.mg dl F' (kvs.map (·.2)) vs → Q (((kvs.map (·.1)).zip vs).map fun kv => (kV kv.1, kv.2)) H') sg H → tPairs (trsOf X dl W l) sg H Q
  | [], F, sg, H, Q, q => q.rt [] rfl rfl
  | p :: r, F, sg, H, Q, q => by
    refine ⟨F, q.bnd.imp fun y F1 H1 ⟨st1, q1⟩ v rv => ⟨F1, q1.bnd.imp fun z F2 H2 ⟨st2, q2⟩ u ru => ?_⟩⟩
    obtain ⟨F0, H0, G, s, w, S, g⟩ := q2
    obtain ⟨j, ej, g1⟩ := (Go.bnd g).ofO
    have g2 := g1 F2 H2 Step.refl w
    have g3 : tGF X dl W F2 (fun G => bnd (gPairs r G) fun rest => ret ((j, z) :: rest)) _ sg H2 := ⟨F0, H0, G, s, w, S, g2⟩
    refine pairs_rd r (g3.bnd.imp fun kvs F3 H3 ⟨st3, q3⟩ vs hl rvs => ?_)
    have k := q3.rt (u :: vs) (by simp [hl]) ⟨u, vs, rfl, Rep.mono st3.fs _ _ ru, rvs⟩
    rw [key_rep rv ej]
    exact k
theorem de_disp {keys : List (Option Expr)} {values : List Expr} {l : List (SE × SE)} (h : PPs X pos keys values (trsOf X dl W l)) (hall : keys.all (·.isSome) = true := by rfl) (hl : keys.length = values.length := by rfl) (h0 : keys ≠ [] := by intro z; cases z)
    (h15 : keys.length ≤ 15 := by decide) : DE X dl W (.Dict keys values pos) (gDisp l) := by
  refine PE.of (PE.lock (pe_disp h hall hl h0 h15)) fun sg H Q q p hp => ?_
  obtain ⟨F, F0, H0, G, s, w, S, g⟩ := q
  have ndp : ¬ dl.has p := w.na hp
  have stp : Step dl F H F (upd H p (.dK [])) := Step.newO hp
  refine pairs_rd l (F := F) ⟨F0, H0, G, s, w.newO hp, S.step stp, Go.imp (Go.at stp g) fun kvs s1 F1 H1 st1 w1 g1 vs hlen rvs => ?_⟩
  have hp1 : H1 p = some (.dK []) := st1.hs p _ ndp upd_same
  have fp1 : F1 p = none := none_step st1 (w.fnone hp) upd_same
  obtain ⟨d, e, g2⟩ := g1.ofO
  unfold dictOf15 at e
  by_cases h15k : kvs.length ≤ 15
  case neg => rw [if_neg h15k] at e; cases e
  rw [if_pos h15k] at e
  refine ⟨hp1, (kvs.map (·.1)).zip vs, rfl, ?_, p, _, rfl, upd_same, trivial, fun od => ?_⟩
  · rw [List.length_zip, List.length_map]; omega
  · unfold dictOf at e
    split at e
    · rename_i hcnd
      cases e
      have hl' : (kvs.map (·.1)).length = vs.length := by rw [List.length_map]; exact hlen
      have nd := nodupK_iff.mp hcnd.2
      have hz : ((kvs.map (·.1)).zip vs).map (·.1) = kvs.map (·.1) := by rw [List.map_fst_zip]; omega
      rw [mergeK_new _ [] (by rw [List.nil_append, hz]; exact nd), List.nil_append, upd_upd]
      have stx := Step.lockD (o := .frz od (.dK ((kvs.map (·.1)).zip vs))) (stp.trans st1) hp fp1
      have wx := Wd.lockD (o := .frz od (.dK ((kvs.map (·.1)).zip vs))) w1 ndp fp1
      refine g2 _ _ stx wx (.ref p) ⟨p, od, vs, rfl, upd_same, hl', ⟨by rw [List.length_map]; exact hcnd.1, nd⟩, RepL.mono (fun b u e => ?_) _ _ rvs⟩
      rw [upd_ne (ne_of_none e fp1)]; exact e
    · cases e
end
end EK


namespace EK
open PySem PySem.Spec PyProof.Rows L2
structure MkFD (P : Program) (w : World) (K : PySem.W.Frag) (mg : Str → Option Value) (base : Heap) (c : Str) (k n : Nat) (m : List D → M (List Str × List D)) (dd : List D) : Prop where
  ex : ∃ (C g : Addr) (fd : FuncData) (ps : List Str) (ds : List Value) (dvs : List V), mg c = some (.ref C) ∧ Mk K C g ∧ ps.length = n + 1 ∧ Vals dvs ds ∧ Binds K fd ps ds ∧ (∀ (dl : Dr w) F, RepL K mg dl F dd dvs) ∧ FnOk P w K mg base (L2.CX P w) k g fd ps (spI K mg w c n m)
section
variable {X : Cx} {dl : Dr X.w} {W : WX} {pos p : Pos} {e : Expr} {es : List Expr} {ra : SA}
def gMakeD (c : Str) (n : Nat) (m : List D → M (List Str × List D)) (dd : List D) (ra : SA) : SE := fun G => bnd (ra G) fun ds => if (ds ++ dd).length = n then bnd (m (ds ++ dd)) fun r => ret (.obj c r.1 r.2) else fail
end
end EK


namespace EK
open PySem PySem.Spec PyProof.Rows L2
section
variable {X : Cx} {dl : Dr X.w} {W : WX} {o e : Expr} {fa fb : SE} {apos pos : Pos}
def joinD (a : Str) (d : D) : Option D := (txts d).bind fun ys => if (ys.map (·.length)).sum + ys.length * a.length ≤ 16777216 then some (.str (Txt.join a ys)) else none
def gJoin (fa fb : SE) : SE := fun G => bnd (fa G) fun x => bnd (ofO (txt x)) fun a => bnd (fb G) fun y => ofO (joinD a y)
def intO : D → Option Int
  | .int i => some i
  | _ => none
def sumD : List D → Option D
  | [.lst ds] => (ds.mapM intO).map fun ns => .int ns.sum
  | _ => none
end
end EK


namespace EK
open PySem PySem.Spec PyProof.Rows L2
abbrev SN := Sls → M (List D)
section
variable (X : Cx) (dl : Dr X.w) (W : WX)
def GoN (F0 H0 : Hp) (r : Option (Res (List D) × DS)) (E : Ends) : Prop := match r with
  | none => False
  | some (.ok ds, s') => ∀ F' H' a, Step dl F0 H0 F' H' → Wd dl F' H' s' → NewL X dl H0 ds F' H' a → E.rt (.ref a) H'
  | some (.err x, s') => ∀ F' H' sg' cls d, Step dl F0 H0 F' H' → Wd dl F' H' s' → ExRep X.mg X.K dl F' H' x cls d → W cls d sg' H'
def tSN (f : SN) : TS := fun E sg H => ∃ (F0 H0 F : Hp) (G : Sls) (s : DS), Wd dl F H s ∧ Sim X.K X.mg dl F0 H0 F H sg G ∧ GoN X dl W F0 H0 (f G s) E
abbrev DSN (st : List Stmt) (f : SN) : Prop := PSs X st (tSN X dl W f)
end
section
variable {X : Cx} {dl : Dr X.w} {W : WX} {pos p : Pos}
def sSeqN (f : SS) (g : SN) : SN := fun G => bnd (f G) fun o => match o with
  | .next G' => g G'
  | _ => fail
/-- return x, x the def's own list -/
def gOwnV (i : Nat) : SN := fun G => ofO (ownAt G i)
end
def spN (K : PySem.W.Frag) (mg : Str → Option Value) (w : World) (n : Nat) (m : List D → M (List D)) : Sp := fun vs H Q E => vs.length = n ∧ ∃ (dl : Dr w) (F : Hp) (ds : List D) (s : DS), Wd dl F H s ∧ RepL K mg dl F ds vs ∧
  Go mg K dl E F H (m ds s) fun es _ F' H' => ∀ a, (H a = none ∧ F' a = none ∧ ∃ ws, H' a = some (.lst ws) ∧ ws.length ≤ sizeLine ∧ RepL K mg dl F' es ws) → Q (.ref a) H'
def runN (n : Nat) (b : SN) (ds : List D) : M (List D) := b (startG n ds)
structure DFnN (P : Program) (w : World) (K : PySem.W.Frag) (mg : Str → Option Value) (base : Heap) (x : Str) (k n : Nat) (m : List D → M (List D)) : Prop where
  ex : ∃ (f : Addr) (fd : FuncData) (ps : List Str), mg x = some (.ref f) ∧ PySem.W.keepIn K (.ref f) = true ∧ ps.length = n ∧ Binds K fd ps [] ∧ FnOk P w K mg base (L2.CX P w) k f fd ps (spN K mg w n m)
section
variable {X : Cx} {dl : Dr X.w} {W : WX} {pos p : Pos} {x : Str} {e : Expr} {es : List Expr} {ra : SA} {k n : Nat} {m : List D → M (List D)}
def gCallN (n : Nat) (m : List D → M (List D)) (ra : SA) : SA := fun G => bnd (ra G) fun ds => if ds.length = n then m ds else fail
def sTmp (f : SA) : SS := fun G => bnd (f G) fun ds => if ds.length < sizeLine then ret (.next G) else fail
def minZ : Int → List Int → Int
  | i, [] => i
  | i, j :: r => minZ (if j < i then j else i) r
def minLD : List D → Option D
  | [.lst ds] => (ds.mapM intO).bind fun ns => match ns with
    | i :: r => some (.int (minZ i r))
    | [] => none
  | _ => none
end
end EK


namespace EK
open PySem PySem.Spec PyProof.Rows L2
section
variable {X : Cx} {dl : Dr X.w} {W : WX} {a b e : Expr} {fa fb : SE} {pos p : Pos}
def catL : D → D → Option (List D)
  | .lst xs, .lst ys => if xs.length + ys.length ≤ sizeLine then some (xs ++ ys) else none
  | _, _ => none
def gCatO (fa fb : SE) : SA := fun G => bnd (fa G) fun x => bnd (fb G) fun y => ofO (catL x y)
def revL : D → Option (List D)
  | .lst xs => some xs.reverse
  | _ => none
theorem RepL.reverse {K : PySem.W.Frag} {mg : Str → Option Value} {F : Hp} : ∀ {ds : List D} {vs : List V}, RepL K mg dl F ds vs → RepL K mg dl F ds.reverse vs.reverse
  | [], vs, h => by have h : vs = [] := h; subst h; rfl
  | d :: ds, vs, h => by
    obtain ⟨v, vs', rfl, h1, h2⟩ := h
    rw [List.reverse_cons, List.reverse_cons]
    exact (RepL.reverse h2).append ⟨v, [], rfl, h1, rfl⟩
def gRevO (fa : SE) : SA := fun G => bnd (fa G) fun d => ofO (revL d)
def asI2 : List D → Option (List D)
  | [.int n] => if -1000000 ≤ n ∧ n < 1000000 then some (upFrom 0 n.toNat) else none
  | [.int a, .int b] => if -1000000 ≤ a ∧ a < 1000000 ∧ -1000000 ≤ b ∧ b < 1000000 then some (upFrom a (b - a).toNat) else none
  | _ => none
def maxZ : Int → List Int → Int
  | i, [] => i
  | i, j :: r => maxZ (if j > i then j else i) r
def maxLD : List D → Option D
  | [.lst ds] => (ds.mapM intO).bind fun ns => match ns with
    | [] => none
    | i :: r => some (.int (maxZ i r))
  | [.int i, .int j] => some (.int (if j > i then j else i))
  | _ => none
def enumD (xs : List D) : List D := xs.zipIdx.map fun p => .tup [.int (p.2 : Nat), p.1]
def enumL : List D → Option (List D)
  | [.lst xs] => some (enumD xs)
  | _ => none
theorem enumD_length (xs : List D) : (enumD xs).length = xs.length := by simp [enumD]
theorem dy_enum {F : Hp} {ds : List D} {vs : List V} (r : RepL X.K X.mg dl F ds vs) : ∀ i H1 x H2, YPair (fun i => some (V.int (i : Nat))) (fun i => vs[i]?) i H1 x H2 → DY X dl F (enumD ds) i H1 x H2 := fun i H1 x H2 y F1 s sm w => by
  obtain ⟨T, a, b, e1, e2, e3, e4, e5⟩ := y
  subst e1; subst e3
  obtain ⟨d, h1, h2⟩ := r.get' e5
  cases e4
  have hz : (enumD ds)[i]? = some (.tup [.int (i : Nat), d]) := by
    unfold enumD
    rw [List.getElem?_map, List.getElem?_zipIdx, h1]
    simp
  exact ⟨_, .tup [.int (i : Nat), d], Step.new w e2, w.new e2, hz, T, [_, b], rfl, SqT.of upd_same, two_le, _, [b], rfl, rfl, b, [], rfl, Rep.mono (Step.new w e2).fs _ _ (Rep.mono sm _ _ h2), rfl⟩
def isBD : D → D → Option D
  | .bl a, .bl b => some (.bl (decide (a = b)))
  | _, _ => none
def notBD : D → D → Option D
  | .bl a, .bl b => some (.bl (!decide (a = b)))
  | _, _ => none
end
end EK


namespace EK
open PySem PySem.Spec PyProof.Rows L2
structure MethN (P : Program) (w : World) (K : PySem.W.Frag) (mg : Str → Option Value) (base : Heap) (c m : Str) (k n : Nat) (fm : List D → M (List D)) : Prop where
  ex : ∃ (C g : Addr) (fd : FuncData) (ps : List Str), mg c = some (.ref C) ∧ Cls K C ∧ Meth K C m g ∧ ps.length = n + 1 ∧ Binds K fd ps [] ∧ FnOk P w K mg base (L2.CX P w) k g fd ps (spN K mg w (n + 1) fm)
structure PropN (P : Program) (w : World) (K : PySem.W.Frag) (mg : Str → Option Value) (base : Heap) (c f : Str) (k : Nat) (m : List D → M (List D)) : Prop where
  ex : ∃ (C p g : Addr) (fd : FuncData) (ps : List Str), mg c = some (.ref C) ∧ Cls K C ∧ PropOf K C f p g ∧ ps.length = 1 ∧ Binds K fd ps [] ∧ FnOk P w K mg base (L2.CX P w) k g fd ps (spN K mg w 1 m)
section
variable {P : Program} {w : World} {K : PySem.W.Frag} {mg : Str → Option Value} {base : Heap} {c m : Str} {k n : Nat} {C g : Addr} {fd : FuncData} {ps : List Str} {fm : List D → M (List D)}
end
section
variable {X : Cx} {dl : Dr X.w} {W : WX} {e : Expr} {fe : SE} {pos apos p : Pos}
def gMethN0 (c m : Str) (fm : List D → M (List D)) (fe : SE) : SA := fun G => bnd (fe G) fun d => if isC c d && noFld m d then fm [d] else fail
def gPropN (c : Str) (m : List D → M (List D)) (fe : SE) : SA := fun G => bnd (fe G) fun d => if isC c d then noErr (m [d]) else fail
def sTmpC (f : SA) : SS := fun G => bnd (f G) fun _ => ret (.next G)
end
end EK


namespace EK
open PySem PySem.Spec PyProof.Rows L2
theorem bb_ValueError : bootBuiltins "ValueError" = some (.type "ValueError") := by decide +kernel
/-- a method called by the keywords ks; is: where its parameters stand among them -/
structure MethK (P : Program) (w : World) (K : PySem.W.Frag) (mg : Str → Option Value) (base : Heap) (c m : Str) (k : Nat) (ks : List Str) (is : List Nat) (N : Nat) (fm : List D → M D) : Prop where
  ex : ∃ (C g : Addr) (fd : FuncData) (ps : List Str), mg c = some (.ref C) ∧ Cls K C ∧ Meth K C m g ∧ ps.length = N + 1 ∧ KBn K fd ps 1 ks (fun us ws => us ++ pickL is ws) (fun vs zs => vs ++ pickL is zs) ∧ FnOk P w K mg base (L2.CX P w) k g fd ps (spD K mg w (N + 1) fm)
structure MkFK (P : Program) (w : World) (K : PySem.W.Frag) (mg : Str → Option Value) (base : Heap) (c : Str) (k : Nat) (ks : List Str) (is : List Nat) (N : Nat) (m : List D → M (List Str × List D)) : Prop where
  ex : ∃ (C g : Addr) (fd : FuncData) (ps : List Str), mg c = some (.ref C) ∧ Mk K C g ∧ ps.length = N + 1 ∧ KBn K fd ps 1 ks (fun us ws => us ++ pickL is ws) (fun vs zs => vs ++ pickL is zs) ∧ FnOk P w K mg base (L2.CX P w) k g fd ps (spI K mg w c N m)
section
variable {X : Cx} {dl : Dr X.w} {W : WX} {pos apos p : Pos} {e : Expr} {fe : SE} {kws : List Keyword} {rk : SA} {k N : Nat} {ks : List Str} {is : List Nat} {c m : Str}
def gMethK (c m : Str) (l N : Nat) (is : List Nat) (fm : List D → M D) (fe : SE) (rk : SA) : SE := fun G => bnd (fe G) fun d => if isC c d && noFld m d then bnd (rk G) fun es => if es.length = l ∧ (pickL is es).length = N then fm (d :: pickL is es) else fail else fail
def gMakeK (c : Str) (l N : Nat) (is : List Nat) (m : List D → M (List Str × List D)) (rk : SA) : SE := fun G => bnd (rk G) fun es => if es.length = l ∧ (pickL is es).length = N then bnd (m (pickL is es)) fun r => ret (.obj c r.1 r.2) else fail
end
end EK


namespace EK
open PySem PySem.Spec PyProof.Rows L2
section
variable {prog : Program} {w : World} {A : Around} {E : Value → Shared → Prop} {s : Shared}
theorem nextOf_tup_item {it t : Addr} {i : Nat} {items : Array Value} {x : Value} {Q : Value → Shared → Prop} (hi : s.heap.IsTupleIter it t i) (ht : s.heap.IsTuple t items) (hx : items[i]? = some x)
    (hQ : ∀ h', h'.IsTupleIter it t (i + 1) → Heap.SameBut it s.heap h' → Q x { s with heap := h' }) : wpAny (model prog w) A (Builtin.SmallTypes.nextOf (.ref it)) Q E s := by
  obtain ⟨o, ho, hc, hd⟩ := id hi; obtain ⟨ol, hol, _, nl, hdl⟩ := ht; unfold Builtin.SmallTypes.nextOf
  refine wpAny_bind (wpAny_callSpecial?_slot (name := Str.ofString "__next__") hi.typeIs F.slot_tuple_iterator_next (wpAny_call_entry F.slot_tuple_iterator_next hi.typeIs F.entry_tuple_iterator_next ?_ (F.args_tuple_iterator_next_1 _)))
  show wpAny _ _ (field (.ref it) 0 >>= _) _ _ s; refine wpAny_bind (wpAny_field ho hd (x := .ref t) rfl ?_)
  show wpAny _ _ (if (Value.ref t == Value.none) = true then _ else _) _ _ s; rw [if_neg (show ¬ ((Value.ref t == Value.none) = true) from Bool.false_ne_true)]
  show wpAny _ _ (field (.ref it) 1 >>= _) _ _ s; refine wpAny_bind (wpAny_field ho hd (x := .int i 0) rfl ?_)
  show wpAny _ _ (seqItems? (.ref t) >>= _) _ _ s; refine wpAny_bind (wpAny_seqItems hol hdl ?_); simp only [Int.toNat_natCast, hx]
  refine wpAny_bind (wpAny_setField ho hd (by simp) (wpAny_pure ⟨x, rfl, wpAny_pure (hQ _ ⟨_, Heap.get?_update_self _ ho (Obj.isFreed_of_fields (Obj.data_mapFields hd _)), (Obj.cls_mapFields ..).trans hc, by rw [Obj.data_mapFields hd]; simp [rawInt]⟩ (Heap.SameBut.update ..))⟩))
theorem nextOf_tup_end {it t : Addr} {i : Nat} {items : Array Value} {Q : Value → Shared → Prop} (hh : A.handled = none) (hi : s.heap.IsTupleIter it t i) (ht : s.heap.IsTuple t items) (hx : items[i]? = none)
    (hE : ∀ h' e, Heap.ExtBut it s.heap h' → (∃ o, h'.get? e = some o ∧ o.cls = .type "StopIteration") → E (.ref e) { s with heap := h' }) : wpAny (model prog w) A (Builtin.SmallTypes.nextOf (.ref it)) Q E s := by
  obtain ⟨o, ho, hc, hd⟩ := id hi; obtain ⟨ol, hol, _, nl, hdl⟩ := ht; unfold Builtin.SmallTypes.nextOf
  refine wpAny_bind (wpAny_callSpecial?_slot (name := Str.ofString "__next__") hi.typeIs F.slot_tuple_iterator_next (wpAny_call_entry F.slot_tuple_iterator_next hi.typeIs F.entry_tuple_iterator_next ?_ (F.args_tuple_iterator_next_1 _)))
  show wpAny _ _ (field (.ref it) 0 >>= _) _ _ s; refine wpAny_bind (wpAny_field ho hd (x := .ref t) rfl ?_)
  show wpAny _ _ (if (Value.ref t == Value.none) = true then _ else _) _ _ s; rw [if_neg (show ¬ ((Value.ref t == Value.none) = true) from Bool.false_ne_true)]
  show wpAny _ _ (field (.ref it) 1 >>= _) _ _ s; refine wpAny_bind (wpAny_field ho hd (x := .int i 0) rfl ?_)
  show wpAny _ _ (seqItems? (.ref t) >>= _) _ _ s; refine wpAny_bind (wpAny_seqItems hol hdl ?_); simp only [Int.toNat_natCast, hx]
  refine wpAny_bind (wpAny_rule (wpAny_bind (wpAny_setField ho hd (by simp) ?_))); show wpAny _ _ (newExc (.type "StopIteration") [] >>= _) _ _ _
  refine wpAny_bind ?_; simp only [newExc, newTuple]; refine wpAny_bind (wpAny_newObj_type ?_ (by size_fits))
  refine wpAny_bind (m := firstArgMember _ _) (wpAny_of_eq (a := Value.none) (by first | rfl | (simp only [firstArgMember]; rfl)) ?_); refine wpAny_newObj_type ?_ (by size_fits); simp only [raiseNew]
  refine wpAny_bind (wpAny_handled ?_); first | rw [show A.in1.handled = none from hh] | rw [hh]
  refine wpAny_bind (wpAny_pure (wpAny_throw ?_)); exact hE _ _ (((Heap.SameBut.update ..).extBut.push _).push _) ⟨_, Heap.get?_push_size _ rfl, rfl⟩
end
theorem draws_tup {prog : Program} {w : World} {A : Around} (hh : A.handled = none) (it t : Addr) (hne : t ≠ it) (items : Array Value) :
    Draws prog w A it [it, t] items.size (fun i v => items[i]? = some v) (fun i h => h.IsTupleIter it t i ∧ h.IsTuple t items) where
  live := fun _ _ ⟨⟨o, ho, _⟩, _⟩ => ⟨o, ho⟩
  frame := fun _ _ _ ⟨⟨o, ho, r⟩, ⟨u, hu, q⟩⟩ hk => ⟨⟨o, hk it (.head _) o ho, r⟩, ⟨u, hk t (.tail _ (.head _)) u hu, q⟩⟩
  item := fun i s Q E hi st hQ => nextOf_tup_item st.1 st.2 (x := items[i]) (by simp [hi]) fun h' hit' hs' => hQ _ h' s.toks (by simp [hi]) ⟨hit', st.2.extBut hs'.extBut hne⟩ hs'
  done := fun s Q E st hE => nextOf_tup_end hh st.1 st.2 (by simp) hE
theorem enum_newT (t : Addr) (items : Array Value) (n : Nat) (dct : Option Addr) (sl : Array (Option Value)) :
    Meets (Builtin.«enumerate.__new__» ⟨[.type "enumerate", .ref t], []⟩) (fun _ R s => s.heap.get? t = some { cls := .type "tuple", dict := dct, data := .seq items n, slots := sl } ∧
      R (.ok (.ret (.ref (s.heap.push { cls := .type "tuple_iterator", data := .fields #[.ref t, .int 0 0] }).objs.size)))
        { s with heap := (s.heap.push { cls := .type "tuple_iterator", data := .fields #[.ref t, .int 0 0] }).push { cls := .type "enumerate", data := .fields #[.none, .bool false, .ref s.heap.objs.size, rawInt 0, .none, .none] } }) :=
  .of_wp fun prog w A R s h => by
    obtain ⟨hp, g, d, tk, os⟩ := s
    obtain ⟨hl, h⟩ := h
    have hsub := sub_enumerate
    have hL : Heap.IsTuple (Shared.heap ⟨hp, g, d, tk, os⟩) t items := ⟨_, hl, rfl, n, rfl⟩
    wp_walk using AutoSeq1.wpAny_loadPart' hl
    refine wpAny_stack_any fun st => wpAny_pure ?_
    split
    · rename_i c _ _ _ _ _
      cases (c == Value.type "enumerate") <;> (wp_walk using AutoSeq1.wpAny_loadPart' hl, wpAny_pyIter_tuple hL; exact ⟨_, rfl, h⟩)
    · wp_walk using AutoSeq1.wpAny_loadPart' hl, wpAny_pyIter_tuple hL; exact ⟨_, rfl, h⟩
section
variable {prog : Program} {w : World} {A : Around} {E : Value → Shared → Prop} {s : Shared}
theorem call_enumT {t : Addr} {items : Array Value} {Q : Value → Shared → Prop} (hL : s.heap.IsTuple t items)
    (h : ∀ h', IsEnum h' (s.heap.objs.size + 1) s.heap.objs.size 0 .none → h'.IsTupleIter s.heap.objs.size t 0 → h'.objs.size = s.heap.objs.size + 2 →
      (∀ b o, s.heap.get? b = some o → h'.get? b = some o) → Q (.ref (s.heap.objs.size + 1)) { s with heap := h' }) :
    wpAny (model prog w) A (call (.type "enumerate") [.ref t]) Q E s := by
  obtain ⟨⟨c, dct, dt, sl⟩, hl, hc, n, hd⟩ := hL
  have hc : c = .type "tuple" := hc
  have hd : dt = .seq items n := hd
  subst hc hd
  refine callType_new F.called_enumerate (by decide) (F.typeCall_enumerate_1 _) (F.newCall_enumerate_1 _) (fun obj => F.args_object_init_2 obj _) F.entry_enumerate_new (enum_newT t items n dct sl) ⟨hl, ?_⟩
  have hz : (s.heap.push { cls := .type "tuple_iterator", data := .fields #[.ref t, .int 0 0] }).objs.size = s.heap.objs.size + 1 := Heap.size_push ..
  show _ ∧ _
  rw [hz]
  have he : IsEnum ((s.heap.push { cls := .type "tuple_iterator", data := .fields #[.ref t, .int 0 0] }).push { cls := .type "enumerate", data := .fields #[.none, .bool false, .ref s.heap.objs.size, rawInt 0, .none, .none] }) (s.heap.objs.size + 1) s.heap.objs.size 0 .none := by
    have := Heap.get?_push_size (s.heap.push { cls := .type "tuple_iterator", data := .fields #[.ref t, .int 0 0] }) (o := { cls := .type "enumerate", data := .fields #[.none, .bool false, .ref s.heap.objs.size, rawInt 0, .none, .none] }) rfl
    rw [hz] at this; exact this
  exact ⟨⟨_, he, rfl⟩, h _ he ⟨_, Heap.get?_push_of_some _ (Heap.get?_push_size _ rfl), rfl, rfl⟩ (by rw [Heap.size_push, hz]) fun b o x => Heap.get?_push_of_some _ (Heap.get?_push_of_some _ x)⟩
end
theorem enum_tup_end {prog : Program} {w : World} {A : Around} {E : Value → Shared → Prop} {s : Shared} {e it l : Addr} {i : Nat} {items : Array Value} {old : Value} {Q : Option Value → Shared → Prop} (hh : A.handled = none) (he : IsEnum s.heap e it i old) (hit : s.heap.IsTupleIter it l i) (hl : s.heap.IsTuple l items) (hx : items[i]? = none)
    (hQ : ∀ h', Heap.ExtBut it s.heap h' → Q none { s with heap := h' }) : wpAny (model prog w) A (pyNext (.ref e)) Q E s := by
  have hT : s.TypeIs (.ref e) "enumerate" := ⟨_, he, rfl⟩; unfold pyNext
  refine wpAny_bind (wpAny_attempt (wpAny_callSpecial?_slot (name := Str.ofString "__next__") hT F.slot_enumerate_next (wpAny_call_entry F.slot_enumerate_next hT F.entry_enumerate_next ?_ (F.args_enumerate_next_1 _))))
  show wpAny _ _ (field (.ref e) 2 >>= _) _ _ _; refine wpAny_bind (wpAny_field he rfl (x := .ref it) rfl ?_)
  refine wpAny_bind (nextOf_tup_end hh hit hl hx fun h' x he' hx' => ?_); obtain ⟨o, ho, hc⟩ := hx'
  refine wpAny_bind (wpAny_isInstance (T := "StopIteration") (b := true) ⟨o, ho, hc⟩ isSubtype_stop ?_); exact wpAny_pure (hQ _ he')
/-- the tuple at a as it stands at each turn, each item in a new pair -/
def IteT (K : PySem.W.Frag) (a : Addr) : It :=
  ⟨fun i H => ∃ (xs : List V) (x : V), SqT K H a xs ∧ xs[i]? = some x, fun i H v H' => ∃ T x, v = .ref T ∧ H T = none ∧ H' = upd H T (.tup [.int (i : Nat), x]) ∧ ∀ xs, SqT K H a xs → xs[i]? = some x, fun i H => ∃ xs : List V, SqT K H a xs ∧ xs.length ≤ i⟩
theorem ne_en : Value.type "enumerate" ≠ Value.type "tuple" := by decide
theorem ne_ti : Value.type "tuple_iterator" ≠ Value.type "tuple" := by decide
theorem tup_ne {h : Heap} {a b : Addr} {items : Array Value} {ob : Obj} (ht : h.IsTuple a items) (e : h.get? b = some ob) (hc : ob.cls ≠ .type "tuple") : a ≠ b := by
  obtain ⟨o, ho, c, _⟩ := ht
  rintro rfl
  rw [ho] at e
  cases e
  exact hc c
theorem turn_enumT {P : Program} {w : World} {K : PySem.W.Frag} {elts : List Expr} {kk : Nat} {tpos : Pos} (a e it : Addr) :
    Turn P w K (.Tuple elts kk tpos) (IteT K a) [e, it] e (fun i h => (∃ old, IsEnum h e it ((i : Nat) : Int) old) ∧ h.IsTupleIter it a i ∧ e ≠ it) where
  mem := List.mem_cons_self
  obj := fun i h ⟨⟨old, he⟩, ⟨o, ho, hc, hd⟩, _⟩ b hb => by
    rcases List.mem_cons.mp hb with z | z
    · rw [z]; exact ⟨_, he, fun v q => nomatch q⟩
    · rw [List.mem_singleton.mp z]; exact ⟨o, ho, fun v q => by rw [hd] at q; cases q⟩
  keep := fun i h h' st k => let ⟨⟨old, he⟩, ⟨o, ho, r⟩, hne⟩ := st; ⟨⟨old, k e (.head _) _ he⟩, ⟨o, k it (.tail _ (.head _)) o ho, r⟩, hne⟩
  item := by
    intro X hP hw hK hc i pins s sg H E I hf st hg
    subst hP hw hK
    obtain ⟨⟨old, he⟩, hit, hne⟩ := st; obtain ⟨xs, x, hq, hx⟩ := hg; obtain ⟨its, rv, p, hz⟩ := I.tuple hq; obtain ⟨u, hu, ru⟩ := rv.get hx
    have p : s.heap.IsTuple a its.toArray := p
    have hel : e < s.heap.objs.size := Heap.lt_size he
    have hil : it < s.heap.objs.size := by obtain ⟨_, q, _⟩ := hit; exact Heap.lt_size q
    have nae : a ≠ e := tup_ne p he ne_en
    have nai : a ≠ it := by obtain ⟨o, ho, hc2, _⟩ := id hit; exact tup_ne p ho (by rw [hc2]; exact ne_ti)
    have hlt : i < its.toArray.size := by
      have := (List.getElem?_eq_some_iff.mp hu).1
      simpa using this
    refine wpAny_pyNext_enum_itemD (draws_tup (A := X.A.in1) (I.ok.hd hc) it a nai its.toArray) he ⟨hit, p⟩ hlt hne (fun q => by
      rcases List.mem_cons.mp q with q | q
      · exact hne q
      · exact nae (List.mem_singleton.mp q).symm) fun x' h' tk px ho hst hT hsz hk => ?_
    have px : x' = u := by
      have px : its.toArray[i]? = some x' := px
      have : its[i]? = some x' := by simpa using px
      rw [hu] at this
      exact (Option.some.inj this).symm
    subst px
    refine ⟨_, rfl, wpAny_letOwnedTupleGo_enum (s := { s with heap := h', toks := tk + 1 }) ho fun h'' he' sb => ?_⟩
    have hT2 : h''.get? s.heap.objs.size = some { cls := .type "tuple", data := .seq #[.int i tk, x'] } := by rw [sb.2 _ (Nat.ne_of_gt hel)]; exact hT
    have new : ObjOk X.prog X.w (upd H s.heap.objs.size (.tup [.int (i : Nat), x])) h'' s.heap.objs.size (.tup [.int (i : Nat), x]) := ⟨by show 2 ≤ sizeLine; decide, [.int i tk, x'], .cons ⟨_, rfl⟩ (.cons ru .nil), ⟨_, hT2, rfl, _, rfl⟩⟩
    have I1 : Inv X pins sg (upd H s.heap.objs.size (.tup [.int (i : Nat), x])) { s with heap := h'', toks := tk + 1 } :=
      I.turnedNew (ch := [e, it]) (fun b ob hb q => by rw [sb.2 b (fun z => hb (by rw [z]; exact .head _))]; exact hk b ob (fun z => hb (by rw [z]; exact .head _)) (fun z => hb (by rw [z]; exact .tail _ (.head _))) q) hf (Nat.le_refl _) new
    have hst' : h''.IsTupleIter it a (i + 1) := by
      obtain ⟨o, h1, h2⟩ := hst.1
      exact ⟨o, by rw [sb.2 it (Ne.symm hne)]; exact h1, h2⟩
    refine ⟨.ref s.heap.objs.size, _, I1, rfl, ⟨_, x, rfl, I.hok.fresh (Nat.le_refl _), rfl, fun ys hy => by rw [I.tuple_inj hy hq]; exact hx⟩, ⟨⟨x', ?_⟩, hst', hne⟩, fun b hb => ?_⟩
    · rw [show ((i + 1 : Nat) : Int) = (i : Int) + 1 by omega]; exact he'
    · have hb' : b < s.heap.objs.size := by
        rcases List.mem_cons.mp hb with z | z
        · rw [z]; exact hel
        · rw [List.mem_singleton.mp z]; exact hil
      rw [upd_ne (Nat.ne_of_lt hb')]; exact (hf b hb).1
  done := by
    intro X hP hw hK hc i pins s sg H E I hf st hg
    subst hP hw hK
    obtain ⟨⟨old, he⟩, hit, hne⟩ := st; obtain ⟨xs, hq, hx⟩ := hg; obtain ⟨its, rv, p, hz⟩ := I.tuple hq; obtain ⟨f0, f1, f2, f3, f4, f5⟩ := hf it (.tail _ (.head _))
    have p : s.heap.IsTuple a its.toArray := p
    have nai : a ≠ it := by obtain ⟨o, ho, hc2, _⟩ := id hit; exact tup_ne p ho (by rw [hc2]; exact ne_ti)
    have hl : its.toArray[i]? = none := by have := rv.length; simp; omega
    exact enum_tup_end (I.ok.hd hc) he hit p hl fun h' eb => ⟨rfl, I.turned (t' := s.toks) (fun b o hb q => eb b o hb q) f0 f1 f3 f4 f5⟩
  self := fun A i s Q E st h => wpAny_pyIter_enum st.1.choose_spec h
def iEnumA (K : PySem.W.Frag) (ta : TA) : TI := fun sg H R => ta sg H fun vs H1 => ∃ a xs, vs = [.ref a] ∧ ((SqL K H1 a xs ∧ R (Ite K a) H1) ∨ (SqT K H1 a xs ∧ R (IteT K a) H1))
theorem pi_enumA {X : Cx} {e : Expr} {ta : TA} {p pos tpos : Pos} {elts : List Expr} {kk : Nat} (hg : Gl X "enumerate") (hm : X.mg "enumerate" = none) (ha : PA X [e] ta) (hs : starEach [e] X.env = [(false, eval e X.env)] := by rfl) :
    PI X (.Tuple elts kk tpos) (.Call (.Name "enumerate" p) [e] [] pos) (iEnumA X.K ta) := by
  refine ⟨fun pins s sg H R I h => ?_⟩
  refine Call_ (ld_blt I hg hm boot_enumerate (PyProof.Rows.callWith_type1 (thn (ha.run pos pins s sg H _ I h) fun us s1 ⟨vs, H1, I1, r1, q1⟩ => ?_) hs rfl))
  obtain ⟨a, xs, ex, q1⟩ := q1
  subst ex
  cases r1 with
  | cons r rr =>
    cases rr
    cases r
    have fresh : ∀ b, b ∈ [s1.heap.objs.size + 1, s1.heap.objs.size] → FpOk X pins H1 b := fun b hb => by
      have hle : s1.heap.objs.size ≤ b := by
        rcases List.mem_cons.mp hb with z | z
        · rw [z]; exact Nat.le_add_right _ _
        · rw [List.mem_singleton.mp z]; exact Nat.le_refl _
      exact I1.fpOk hle (I1.hok.fresh hle)
    rcases q1 with ⟨hq, q⟩ | ⟨hq, q⟩
    · obtain ⟨its, rv, p', hz⟩ := I1.list hq
      refine call_enumerate_list p'.isList fun h' he hit hsz hk => wpAny_pyIter_enum he ?_
      have I2 : Inv X pins sg H1 { s1 with heap := h' } := I1.kept (t' := s1.toks) hk
      exact ⟨s1.heap.objs.size + 1, [s1.heap.objs.size + 1, s1.heap.objs.size], _, _, H1, rfl, I2, turn_enum a (s1.heap.objs.size + 1) s1.heap.objs.size, ⟨⟨.none, he⟩, hit, Nat.succ_ne_self _⟩, fresh, q⟩
    · obtain ⟨its, rv, p', hz⟩ := I1.tuple hq
      refine call_enumT (show s1.heap.IsTuple a its.toArray from p') fun h' he hit hsz hk => wpAny_pyIter_enum he ?_
      have I2 : Inv X pins sg H1 { s1 with heap := h' } := I1.kept (t' := s1.toks) hk
      exact ⟨s1.heap.objs.size + 1, [s1.heap.objs.size + 1, s1.heap.objs.size], _, _, H1, rfl, I2, turn_enumT a (s1.heap.objs.size + 1) s1.heap.objs.size, ⟨⟨.none, he⟩, hit, Nat.succ_ne_self _⟩, fresh, q⟩
theorem walk_enumT {K : PySem.W.Frag} {a : Addr} {xs : List V} : Walk (IteT K a) xs.length (fun H => SqT K H a xs) (YPair (fun i => some (V.int (i : Nat))) fun i => xs[i]?) := by
  refine ⟨fun i _ hi q => ⟨xs, xs[i], q, by simp [hi]⟩, fun _ q => ⟨xs, q, Nat.le_refl _⟩, fun i H v H' hi q y => ?_⟩
  obtain ⟨T, x, h1, h2, h3, h4⟩ := y
  exact ⟨T, .int (i : Nat), x, h1, h2, h3, rfl, h4 xs q⟩
def enumA : List D → Option (List D)
  | [.lst xs] => some (enumD xs)
  | [.tup xs] => some (enumD xs)
  | _ => none
section
variable {X : Cx} {dl : Dr X.w} {W : WX} {e : Expr} {pos p : Pos}
theorem di_enumA {r : SA} {elts : List Expr} {kk : Nat} {tpos : Pos} (hg : Gl X "enumerate") (hm : X.mg "enumerate" = none) (ha : DA X dl W [e] r) (hs : starEach [e] X.env = [(false, eval e X.env)] := by rfl) :
    DIs X dl W (.Tuple elts kk tpos) (.Call (.Name "enumerate" p) [e] [] pos) (gItC enumA r) := by
  refine PI.of (pi_enumA hg hm ha hs) fun sg H R q => ?_
  obtain ⟨F, q⟩ := q
  refine ⟨F, q.bnd.imp fun ds F1 H1 ⟨st1, q1⟩ vs rvs => ?_⟩
  obtain ⟨xs, s, e1, w, q2⟩ := q1.op
  unfold enumA at e1
  split at e1
  · cases e1
    obtain ⟨v, rfl, a, us, rfl, h1, h2, h3⟩ := repL1 rvs
    refine ⟨a, us, rfl, .inl ⟨SqL.of (w.sub _ _ h1), q2 F1 H1 Step.refl w _ (by rw [enumD_length, h3.length]; exact h2) ?_⟩⟩
    rw [enumD_length, h3.length]
    exact walk_enum.mono (fun H2 sm => SqL.of (sm _ _ h1)) fun i H2 x H3 _ _ y => dy_enum h3 i H2 x H3 y
  · cases e1
    obtain ⟨v, rfl, a, us, rfl, h1, h2, h3⟩ := repL1 rvs
    refine ⟨a, us, rfl, .inr ⟨Same.seqT w.sub h1, q2 F1 H1 Step.refl w _ (by rw [enumD_length, h3.length]; exact h2) ?_⟩⟩
    rw [enumD_length, h3.length]
    exact walk_enumT.mono (fun H2 sm => Same.seqT sm h1) fun i H2 x H3 _ _ y => dy_enum h3 i H2 x H3 y
  · cases e1
end
end EK


namespace EK
open PySem PySem.Spec PyProof.Rows L2
section
variable {X : Cx} {dl : Dr X.w} {W : WX}
def rInT (K : PySem.W.Frag) (b : Bool) : R2 := fun x y H Q => ∃ d ds, Dp K H x d ∧ Dp K H y (.tuple ds) ∧ SeqAt.shaped d = true ∧ SeqAt.shaped (.tuple ds) = true ∧ Q (.bl (xor b (ds.any fun z => PyData.eqv z d))) H
def seqP : PyData → Option (Bool × List PyData)
  | .list ps => some (false, ps)
  | .tuple ps => some (true, ps)
  | _ => none
/-- x in a list or tuple of data of any depth -/
def anyB (a b : D) : Option Bool := (toP a).bind fun p => (toP b).bind fun q => (seqP q).bind fun ps => if (SeqAt.shaped p && SeqAt.shaped q) = true then some (ps.2.any fun z => PyData.eqv z p) else none
def inX (a b : D) : Option D := (anyB a b).map .bl
def ninX (a b : D) : Option D := (anyB a b).map fun k => .bl (!k)
end
end EK


namespace EK
open PySem PySem.Spec PyProof.Rows L2
def setK {α : Type} (k : L2.Key) (v : α) : List L2.Key → List α → List α
  | j :: ks, x :: xs => (if j = k then v else x) :: setK k v ks xs
  | _, xs => xs
def putKs (ks : List L2.Key) (k : L2.Key) : List L2.Key := if hasK ks k = true then ks else ks ++ [k]
def putXs {α : Type} (ks : List L2.Key) (xs : List α) (k : L2.Key) (x : α) : List α := if hasK ks k = true then setK k x ks xs else xs ++ [x]
theorem RepL.setK {K : PySem.W.Frag} {mg : Str → Option Value} {wd : World} {dl : Dr wd} {F : Hp} {k : L2.Key} {d : D} {v : V} (r : Rep K mg dl F d v) : ∀ {ks : List L2.Key} {ds : List D} {vs : List V}, RepL K mg dl F ds vs → RepL K mg dl F (EK.setK k d ks ds) (EK.setK k v ks vs)
  | [], ds, vs, h => by
    have e1 : EK.setK k d [] ds = ds := by cases ds <;> rfl
    have e2 : EK.setK k v [] vs = vs := by cases vs <;> rfl
    rw [e1, e2]; exact h
  | _ :: _, [], vs, h => by
    have h : vs = [] := h
    subst h; rfl
  | j :: ks, d' :: ds, vs, h => by
    obtain ⟨v', vs', rfl, h1, h2⟩ := h
    rw [EK.setK, EK.setK]
    refine ⟨_, _, rfl, ?_, RepL.setK r h2⟩
    by_cases z : j = k
    · rw [if_pos z, if_pos z]; exact r
    · rw [if_neg z, if_neg z]; exact h1
theorem RepL.putXs {K : PySem.W.Frag} {mg : Str → Option Value} {wd : World} {dl : Dr wd} {F : Hp} {k : L2.Key} {d : D} {v : V} (r : Rep K mg dl F d v) {ks : List L2.Key} {ds : List D} {vs : List V} (h : RepL K mg dl F ds vs) : RepL K mg dl F (EK.putXs ks ds k d) (EK.putXs ks vs k v) := by
  unfold EK.putXs
  by_cases z : hasK ks k = true
  · rw [if_pos z, if_pos z]; exact h.setK r
  · rw [if_neg z, if_neg z]; exact h.append ⟨v, [], rfl, r, rfl⟩
abbrev SX := Sls → M (OK × List D)
section
variable (X : Cx) (dl : Dr X.w) (W : WX)
def tDX (f : SX) : TE := fun sg H Q => ∃ F, tGF X dl W F f (fun r F' H' => ∀ a, NewX X dl H r.1 r.2 F' H' a → Q (.ref a) H') sg H
abbrev DEX (e : Expr) (f : SX) : Prop := PE X e (tDX X dl W f)
end
section
variable {X : Cx} {dl : Dr X.w} {W : WX} {pos p : Pos} {e : Expr} {es : List Expr} {f : SE} {ra : SA} {F0 H0 F H : Hp} {E : Ends}
def gX0 : SX := fun _ => ret (.k [], [])
def asX : D → Option (OK × List D)
  | .dct ks xs => some (.k ks, xs)
  | _ => none
/-- dict(d), dict(pairs): a dict of one's own -/
def dictXD (ds : List D) : Option D := match copyD ds with
  | some d => some d
  | none => dictPD ds
def gXC (ra : SA) : SX := fun G => bnd (ra G) fun ds => ofO ((dictXD ds).bind asX)
def sOwnX (i : Nat) (f : SX) : SS := fun G => bnd (f G) fun r => ret (.next (G.set i (some (.ownX r.1 r.2))))
def slX (f : SX) : Sls → M Sl := fun G => bnd (f G) fun r => ret (.ownX r.1 r.2)
def xAt (G : Sls) (i : Nat) : Option (List Key × List D) := match G[i]? with
  | some (some (.ownX (.k ks) ds)) => some (ks, ds)
  | _ => none
def sSetX (i : Nat) (fk fv : SE) : SS := fun G => bnd (fv G) fun d => bnd (ofO (xAt G i)) fun r => bnd (fk G) fun k => bnd (ofO (keyOf k)) fun j => if r.1.length < 1000 then ret (.next (G.set i (some (.ownX (.k (putKs r.1 j)) (putXs r.1 r.2 j d))))) else fail
def frzX (i : Nat) (G : Sls) : Sls := match G[i]? with
  | some (some (.ownX k ds)) => G.set i (some (.fz (k.data ds)))
  | _ => G
theorem OK.rep {k : OK} {ds : List D} {vs : List V} {a : Addr} {od : Obj} {F1 : Hp} (h1 : F1 a = some (.frz od (k.ho vs))) (h2 : k.len = vs.length) (h3 : k.len ≤ 1000 ∧ k.nd) (h4 : RepL X.K X.mg dl F1 ds vs) : Rep X.K X.mg dl F1 (k.data ds) (.ref a) := by
  cases k with
  | k ks => exact ⟨a, od, vs, rfl, h1, h2, h3, h4⟩
  | t ks => exact ⟨a, od, vs, rfl, h1, h2, h3, h4⟩
  | u n => exact h3.2.elim
theorem Sim.frzX {sg : L2.St} {G : Sls} {i : Nat} {a : Addr} {k : OK} {ds : List D} {vs : List V} {od : Obj} (S : Sim X.K X.mg dl F0 H0 F H sg G) (ei : G[i]? = some (some (.ownX k ds))) (es : sg[i]? = some (some (.ref a)))
    (m2 : H a = some (k.ho vs)) (m3 : F a = none) (m4 : H0 a = none) (m6 : k.len = vs.length) (m7 : k.len ≤ 1000 ∧ k.nd) (m8 : RepL X.K X.mg dl F ds vs) :
    Sim X.K X.mg dl F0 H0 (upd F a (.frz od (k.ho vs))) (upd H a (.frz od (k.ho vs))) sg (G.set i (some (.fz (k.data ds)))) := by
  have hil := get_lt ei
  have sm : Same F (upd F a (.frz od (k.ho vs))) := Same.updN m3
  refine ⟨by rw [List.length_set]; exact S.len, fun j t ej => ?_, fun j m t u ej ek o1 o2 e3 => ?_, ⟨fun b o e => sm b o (S.st.fs b o e), fun c o nc e => ?_, fun b o e => ?_, fun c e => ?_⟩, S.tr.at ei rfl (fun _ z => by cases z) es sm (fun b hb => upd_ne hb) (fun b hb => upd_ne hb)⟩
  · by_cases hij : i = j
    · subst hij
      rw [List.getElem?_set_self hil] at ej
      cases ej
      exact ⟨.ref a, es, OK.rep upd_same m6 m7 (RepL.mono sm _ _ m8)⟩
    · rw [List.getElem?_set_ne hij] at ej
      obtain ⟨u, k1, k2⟩ := S.sl j t ej
      refine ⟨u, k1, ?_⟩
      have nea : ∀ c, t.isOwn = true → u = .ref c → c ≠ a := fun c ho eu z => by
        subst z; subst eu
        exact hij (S.dis i j _ t ei ej rfl ho (es.trans k1.symm))
      cases t with
      | fz d => exact Rep.mono sm d u k2
      | own es' =>
        obtain ⟨c, ws, rfl, q2, q3, q4, q5, q6, q7⟩ := k2
        exact ⟨c, ws, rfl, by rw [upd_ne (nea c rfl rfl)]; exact q2, by rw [upd_ne (nea c rfl rfl)]; exact q3, q4, q5, q6, RepL.mono sm _ _ q7⟩
      | ini cc ns es' =>
        obtain ⟨c, dx, C, ws, rfl, q2, q3, q4, q5, q6, q7, q8, q9, q10, q11, q12, q13⟩ := k2
        have nd : dx ≠ a := fun z => by rw [z, m2] at q4; cases k <;> cases q4
        refine ⟨c, dx, C, ws, rfl, q2, by rw [upd_ne (nea c rfl rfl)]; exact q3, by rw [upd_ne nd]; exact q4, by rw [upd_ne (nea c rfl rfl)]; exact q5, by rw [upd_ne nd]; exact q6, q7, q8, q9, q10, q11, q12, RepL.mono sm _ _ q13⟩
      | ownX kk es' =>
        obtain ⟨c, ws, rfl, q2, q3, q4, q5, q6, q7, q8⟩ := k2
        exact ⟨c, ws, rfl, by rw [upd_ne (nea c rfl rfl)]; exact q2, by rw [upd_ne (nea c rfl rfl)]; exact q3, q4, q5, q6, q7, RepL.mono sm _ _ q8⟩
      | tree _ => trivial
  · have nz : ∀ m (t : Sl), (G.set i (some (.fz (k.data ds))))[m]? = some (some t) → t.isOwn = true → i ≠ m := fun m t e o z => by
      subst z
      rw [List.getElem?_set_self hil] at e; cases e; cases o
    have z1 := nz j t ej o1
    have z2 := nz m u ek o2
    rw [List.getElem?_set_ne z1] at ej
    rw [List.getElem?_set_ne z2] at ek
    exact S.dis j m t u ej ek o1 o2 e3
  · rw [upd_ne (ne_of_none e m4)]; exact S.st.hs c o nc e
  · by_cases z : b = a
    · subst z; exact .inr m4
    · rw [upd_ne z] at e; exact S.st.nw b o e
  · by_cases z : c = a
    · subst z; exact m4
    · rw [upd_ne z] at e; exact S.st.al c e
def sFrzX (i : Nat) (f : SS) : SS := fun G => f (frzX i G)
end
end EK


namespace EK
open PySem PySem.Spec PyProof.Rows L2
def flatP : D → Option PyData
  | .non => some .none
  | .bl b => some (.bool b)
  | .int i => some (.int i)
  | .str x => some (.str x)
  | _ => none
def keyP : Key → PyData
  | .inl i => .int i
  | .inr x => .str x
def showX (p : PyData) : Option D := if p.showable = true ∧ p.shown.length ≤ sizeLine ∧ p.depth ≤ 60 then some (.str p.shown) else none
def dctP (ks : List Key) (xs : List D) : Option PyData := (xs.mapM flatP).map fun ps => .dict ((ks.map keyP).zip ps)
def reprX : List D → Option D
  | [.dct ks xs] => (dctP ks xs).bind showX
  | ds => reprD ds
section
variable {K : PySem.W.Frag} {mg : Str → Option Value} {wd : World} {dl : Dr wd} {F H : Hp}
theorem flat_reads {h : Heap} {d : D} {v : V} {u : Value} {p : PyData} (r : Rep K mg dl F d v) (e : flatP d = some p) (ru : RelV v u) : Reads h u p [] := by
  cases d with
  | non => cases e; cases (show v = .non from r); cases ru; exact .none
  | bl b => cases e; cases (show v = .bl b from r); cases ru; exact .bool b
  | int i => cases e; cases (show v = .int i from r); obtain ⟨t, rfl⟩ := ru; exact .int i t
  | str x => cases e; cases (show v = .str x from r); obtain ⟨t, rfl⟩ := ru; exact .str x t
  | _ => cases e
theorem key_reads {h : Heap} {k : Key} {u : Value} (e : keyIs k u = true) : Reads h u (keyP k) [] := by
  rcases keyIs_shape e with ⟨i, t, rfl, rfl⟩ | ⟨x, t, rfl, rfl⟩
  · exact .int i t
  · exact .str x t
theorem dict_reads {P : Program} {w : World} {h : Heap} : ∀ (ks : List Key) (xs : List D) (vs : List V) (us : List (Key × Value)) (es : List DictEntry) (ps : List PyData), ks.length = vs.length → RepL K mg dl F xs vs → xs.mapM flatP = some ps → KV (ks.zip vs) us → Pairs (mixKind P w) es us →
    ReadsAll h (es.map (·.key)) (((ks.map keyP).zip ps).map (·.1)) [] ∧ ReadsAll h (es.map (·.val)) (((ks.map keyP).zip ps).map (·.2)) []
  | [], xs, vs, us, es, ps, hl, r, e, kv, pr => by
    cases vs with
    | cons _ _ => cases hl
    | nil =>
      cases kv
      cases pr
      exact ⟨.nil, .nil⟩
  | k :: ks, xs, vs, us, es, ps, hl, r, e, kv, pr => by
    cases vs with
    | nil => cases hl
    | cons v vs =>
      cases xs with
      | nil => cases (show v :: vs = [] from r)
      | cons d xs =>
        obtain ⟨_, _, z, r1, r2⟩ := r
        cases z
        rw [List.mapM_cons] at e
        cases e1 : flatP d with
        | none => rw [e1] at e; cases e
        | some p =>
          rw [e1] at e
          cases e2 : xs.mapM flatP with
          | none => rw [e2] at e; cases e
          | some qs =>
            rw [e2] at e
            cases e
            cases kv with
            | cons c1 c2 =>
              cases pr with
              | cons d1 d2 d3 =>
                obtain ⟨a, b⟩ := dict_reads ks xs vs _ _ qs (Nat.succ.inj hl) r2 e2 c2 d3
                obtain ⟨c3, c4⟩ := c1
                refine ⟨.cons (as := []) (bs := []) (key_reads ?_) a, .cons (as := []) (bs := []) (flat_reads r1 e1 (by show L2.RelV v (DictEntry.val _); rw [d2]; exact c4)) b⟩
                rw [show k = _ from c3]
                exact d1
end
section
variable {X : Cx} {dl : Dr X.w} {W : WX} {pos p apos cpos : Pos} {e : Expr} {f : SE}
def rItemsZ : V → Hp → VK → Prop := fun x H Q => ∃ (d : Addr) (o : Obj) (kvs : List (Key × V)), x = .ref d ∧ H d = some (.frz o (.dK kvs)) ∧
  ∀ (p : Addr) (ts : List Addr), H p = none → (∀ t ∈ ts, H t = none) → p ∉ ts → ts.Nodup → ts.length = kvs.length → Q (.ref p) (LiI.putT (upd H p (.lst (ts.map V.ref))) ts kvs)
def tItemsZ (te : TE) : TE := fun σ H Q => te σ H fun x H1 => rItemsZ x H1 Q
def gItemsO (f : SE) : SA := fun G => bnd (f G) fun d => ofO (itemsDD d)
end
end EK
namespace EK
open PySem PySem.Spec PyProof.Rows L2
section
variable {X : Cx} {dl : Dr X.w}
/-- list(d) of a dict, of a list, of a tuple, of a text -/
def listX : List D → Option D
  | [.dct ks _] => some (.lst (ks.map keyD))
  | [.str x] => if x.cps.size ≤ 1000000 then some (.lst (chars x)) else none
  | ds => listD ds
end
end EK


namespace EK
open PySem PySem.Spec PyProof.Rows L2 HT
section
variable {prog : Program} {w : World} {A : Around} {E : Value → Shared → Prop} {s : Shared}
end
section
variable {X : Cx} {dl : Dr X.w} {W : WX} {e : Expr} {te : TE} {fa : SE}
def tRevX (K : PySem.W.Frag) (te : TE) : TE := fun σ H Q => te σ H fun x H1 => (∃ a xs, x = .ref a ∧ SqT K H1 a xs ∧ ∀ p, H1 p = none → Q (.ref p) (upd H1 p (.tup xs.reverse))) ∨ (∃ a xs, x = .ref a ∧ SqL K H1 a xs ∧ ∀ p, H1 p = none → Q (.ref p) (upd H1 p (.lst xs.reverse)))
/-- d[::-1] of a list or a tuple -/
def revX : D → Option D
  | .tup xs => some (.tup xs.reverse)
  | .lst xs => some (.lst xs.reverse)
  | _ => none
end
end EK


namespace EK
open PySem PySem.Spec PyProof.Rows L2 LamX
theorem Un.drop {fs ex : List Addr} {H H' : Hp} {h h' : Heap} {w : Addr} (u : Un (w :: fs) ex H H' h h') (hw : h.get? w = none) : Un fs ex H H' h h' where
  keep := fun b o q n hb hx => u.keep b o q n (fun z => by
    rcases List.mem_cons.mp z with e | e
    · rw [e, hw] at q; cases q
    · exact hb e) hx
  slot := fun b o q n hb hx => u.slot b o q n (List.mem_cons_of_mem _ hb) hx
  free := u.free
  there := u.there
  tups := u.tups
  frzs := u.frzs
  tbls := u.tbls
section
variable {X : Cx} {pins : List (Addr × Obj)} {σ : L2.St} {H : Hp} {s : Shared}
end
section
variable {X : Cx}
def tLamF (T : List (Addr × Str)) (TT : Addr → (XK → Hp → VK → Prop) → Hp → VK → Prop) (t : XK → TE) : TE := fun σ H Q => Tabs T H ∧ ∀ H1, ExtM H H1 → Tabs T H1 → ∀ f : Addr, TT f (fun E H' Q' => t E σ H' Q') H1 Q
end
/-- the rest of a def that got the error: slot 0 is the job, slot 1 the error -/
def wordM (N : Nat) (br : SS) (d : D) : M D := bnd (br (none :: some (.fz d) :: List.replicate (N - 2) none)) fun o => match o with
  | .next _ => ret .non
  | .ret d => ret d
  | _ => fail
def gWord (kx : List Str) (f : SE) (N : Nat) (br : SS) : SE := fun G => bnd (gCaught kx f G) fun d => noErr (wordM N br d)
section
variable {X : Cx} {dl : Dr X.w} {W : WX}
def TWord (X : Cx) (dl : Dr X.w) (CS : Addr) (Nw : List Str) (br : SS) : Addr → (XK → Hp → VK → Prop) → Hp → VK → Prop := fun fa tl H Q =>
  TCaught X.K CS tl H fun v H1 => tS X dl (fun _ _ _ _ => False) br { nx := fun _ H' => Q .non H', rt := Q } ((L2.start Nw [.ref fa]).set 1 (some v)) H1
end
end EK


namespace EK
open PySem PySem.Spec PyProof.Rows L2
section
variable {prog : Program} {w : World} {A : Around} {E : Value → Shared → Prop} {s : Shared}
end
def sortRL (ds : List D) : List D := ds.mergeSort (PySem.W.dataLe true pD)
def sortedRK : List D → List D → Option D
  | [.lst xs], [.bl true] => if canSort xs then some (.lst (sortRL xs)) else none
  | _, _ => none
def rCDK (X : Cx) (dl : Dr X.w) (g : List D → List D → Option D) : List V → List V → Hp → VK → Prop := fun xs zs H Q =>
  ∃ (F : Hp) (s : DS) (ds es : List D) (d : D), Wd dl F H s ∧ RepL X.K X.mg dl F ds xs ∧ RepL X.K X.mg dl F es zs ∧ g ds es = some d ∧ ∀ F' H' v, Step dl F H F' H' → Wd dl F' H' s → Rep X.K X.mg dl F' d v → Q v H'
def gCK (g : List D → List D → Option D) (fa fk : SA) : SE := fun G => bnd (fa G) fun ds => bnd (fk G) fun es => ofO (g ds es)
section
variable {X : Cx} {dl : Dr X.w} {W : WX}
variable {x : Str} {p pos : Pos} {id : String} {ks : List Str} {g : List D → List D → Option D} {es : List Expr} {kws : List Keyword} {ra rk : SA} {e : Expr}
end
end EK


namespace EK
open PySem PySem.Spec PyProof.Rows L2
section
variable {prog : Program} {w : World} {K : Type} [DecidableEq K] {knd : KeyKind prog w K} {A : Around} {E : Value → Shared → Prop} {s : Shared}
abbrev pairT (ke ve : Expr) (env : Env) (pos : Pos) : List (Sem Value × Sem Value) := pairTrees [some ke] [ve] env pos
end
section
variable {X : Cx} {pos : Pos} {dv ke ve : Expr} {td tk tv : TE}
def tDispS (td tk tv : TE) : TE := fun sg H Q => ∀ p, H p = none → td sg (upd H p (.dK [])) fun x H1 => ∃ (a : Addr) (kvs : List (Key × V)), x = .ref a ∧ p ≠ a ∧ Rd H1 a (.dK kvs) ∧ kvs.length ≤ 1000 ∧ H1 p = some (.dK []) ∧
  ∀ q, (upd H1 p (.dK kvs)) q = none → tPairs [(tk, tv)] sg (upd (upd H1 p (.dK kvs)) q (.dK [])) fun ps H3 => H3 p = some (.dK kvs) ∧ H3 q = some (.dK []) ∧ ∃ (k : Key) (z : V), ps = [(kV k, z)] ∧
    Q (.ref p) (upd (upd H3 q (.dK [(k, z)])) p (.dK (putK kvs k z)))
end
def asDct : D → Option (List Key × List D)
  | .dct ks xs => if ks.length < 1000 then some (ks, xs) else none
  | _ => none
def putR (r : List Key × List D) : List (Key × D) → Option D
  | [p] => some (.dct (putKs r.1 p.1) (putXs r.1 r.2 p.1 p.2))
  | _ => none
def gDispS (fd fk fv : SE) : SE := fun G => bnd (fd G) fun d => bnd (ofO (asDct d)) fun r => bnd (gPairs [(fk, fv)] G) fun kvs => ofO (putR r kvs)
section
variable {X : Cx} {dl : Dr X.w} {W : WX} {pos : Pos}
end
end EK


namespace EK
open PySem PySem.Spec PyProof.Rows L2
def gIxX (i : Nat) (f : SE) : SE := fun G => bnd (ofO (xAt G i)) fun r => bnd (f G) fun k => ofO ((keyOf k).bind fun j => atK r.1 r.2 j)
section
variable {X : Cx} {dl : Dr X.w} {W : WX} {e b : Expr} {f : SE} {pos p : Pos} {x : Str}
end
end EK


namespace EK
open PySem PySem.Spec PyProof.Rows L2
end EK


namespace EK
open PySem PySem.Spec PyProof.Rows L2
section
variable {X : Cx} {dl : Dr X.w} {W : WX} {b : Expr} {fb : SE} {g : D → D → Option D} {p pos : Pos} {x : Str}
end
end EK


namespace EK
open PySem PySem.Spec PyProof.Rows L2
section
variable {X : Cx} {dl : Dr X.w} {W : WX} {pos : Pos}
end
end EK


namespace EK
open PySem PySem.Spec PyProof.Rows L2
section
variable {prog : Program} {w : World} {A : Around} {E : Value → Shared → Prop} {s : Shared} {a kS : Addr} {b : Bool} {vs : List Value} {keys : Array Value} {e e1 : Nat} {P : PySem.Fin → Shared → Prop}
end
def mapMM (m : D → M D) : List D → M (List D)
  | [] => ret []
  | x :: r => bnd (m x) fun k => bnd (mapMM m r) fun ks => ret (k :: ks)
def sortKL (ds ks : List D) : List D := ((ds.zip ks).mergeSort (PySem.W.dataLe false fun p => pD p.2)).map (·.1)
def sortKey (m : List D → M D) : List D → M D
  | [.lst xs] => bnd (mapMM (fun d => noErr (m [d])) xs) fun ks => if canSort ks then ret (.lst (sortKL xs ks)) else fail
  | _ => fail
section
variable {X : Cx} {dl : Dr X.w} {W : WX}
/-- the state of the loop over the keys -/
def KeySt (X : Cx) (dl : Dr X.w) (pins : List (Addr × Obj)) (sg : L2.St) (kS : Addr) {α : Type} (f : D → M D) (ds : List D) (cont : List D → M α) (q : α → DS → Hp → Hp → Prop) (F1 H1 : Hp) (i : Nat) (s' : Shared) : Prop :=
  ∃ (F' H' : Hp) (st' : DS) (kA : Array Value) (e : Nat) (kds : List D) (kvs : List V), Inv X ((kS, seqObj "list" kA e) :: pins) sg H' s' ∧ Step dl F1 H1 F' H' ∧ Wd dl F' H' st' ∧ RepL X.K X.mg dl F' kds kvs ∧ Vals kvs kA.toList ∧ kds.length = i ∧
    Go X.mg X.K dl (fun _ _ _ => False) F' H' (bnd (mapMM f (ds.drop i)) (fun ks => cont (kds ++ ks)) st') q
/-- what stands behind the sort's own records -/
structure KeyA (X : Cx) (pins : List (Addr × Obj)) (a kS : Addr) : Prop where
  ne : kS ≠ a
  a0 : X.s_0.heap.objs.size ≤ a
  k0 : X.s_0.heap.objs.size ≤ kS
  al : a ≠ X.env.locals
  kl : kS ≠ X.env.locals
  ac : ∀ x c, X.env.cells.lookup x = some c → c ≠ a
  kc : ∀ x c, X.env.cells.lookup x = some c → c ≠ kS
  ap : ∀ p ∈ X.pn ++ pins, p.1 ≠ a
  kp : ∀ p ∈ X.pn ++ pins, p.1 ≠ kS
  kf : kS ∉ X.fs
def rKey (X : Cx) (dl : Dr X.w) (f : Addr) (m : List D → M D) : List V → List V → Hp → VK → Prop := fun xs zs H Q => zs = [.ref f] ∧ rCM X dl (sortKey m) xs H Q
def gSortK (m : List D → M D) (fa : SA) : SE := fun G => bnd (fa G) fun ds => noErr (sortKey m ds)
variable {p pf pos kpos : Pos} {fn : Str} {e : Expr} {ra : SA} {k : Nat} {m : List D → M D}
end
end EK


namespace EK
open PySem PySem.Spec PyProof.Rows L2
mutual
def tflat : D → Bool
  | .non => true
  | .bl _ => true
  | .int _ => true
  | .str _ => true
  | .tup ds => tflats ds
  | _ => false
def tflats : List D → Bool
  | [] => true
  | d :: ds => tflat d && tflats ds
end
mutual
def noL : PyData → Bool
  | .none => true
  | .bool _ => true
  | .int _ => true
  | .str _ => true
  | .tuple ps => noLs ps
  | _ => false
def noLs : List PyData → Bool
  | [] => true
  | p :: ps => noL p && noLs ps
end
def tupP (d : D) : Option PyData := if tflat d = true then toP d else none
def dctPT (ks : List Key) (xs : List D) : Option PyData := (xs.mapM tupP).map fun ps => .dict ((ks.map keyP).zip ps)
def reprT : List D → Option D
  | [.dct ks xs] => (dctPT ks xs).bind showX
  | ds => reprD ds
section
variable {X : Cx} {dl : Dr X.w} {pins : List (Addr × Obj)} {sg : L2.St} {F H : Hp} {s : Shared}
end
section
variable {K : PySem.W.Frag} {mg : Str → Option Value} {wd : World} {dl : Dr wd} {F H : Hp}
end
section
variable {X : Cx} {dl : Dr X.w} {W : WX} {pos p apos cpos : Pos} {e : Expr} {f : SE}
end
end EK


namespace EK
open PySem PySem.Spec PyProof.Rows L2
def sSetXPop (i l : Nat) (fv : SE) : SS := fun G => bnd (fv G) fun d => bnd (ofO (xAt G i)) fun r => bnd (ofO (ownAt G l)) fun ds => bnd (ofO ds[ds.length - 1]?) fun kd => bnd (ofO (keyOf kd)) fun j => if r.1.length < 1000 then ret (.next ((G.set l (some (.own ds.dropLast))).set i (some (.ownX (.k (putKs r.1 j)) (putXs r.1 r.2 j d))))) else fail
theorem RepL.dropLast {K : PySem.W.Frag} {mg : Str → Option Value} {wd : World} {dl : Dr wd} {F : Hp} : ∀ {ds : List D} {vs : List V}, RepL K mg dl F ds vs → RepL K mg dl F ds.dropLast vs.dropLast
  | [], vs, h => by have h : vs = [] := h; subst h; rfl
  | [d], vs, h => by
    obtain ⟨u, us, rfl, h1, h2⟩ := h
    cases (show us = [] from h2)
    rfl
  | d :: e :: ds, vs, h => by
    obtain ⟨u, us, rfl, h1, h2⟩ := h
    obtain ⟨u2, us2, rfl, h3, h4⟩ := h2
    exact ⟨u, _, rfl, h1, RepL.dropLast (ds := e :: ds) (vs := u2 :: us2) ⟨u2, us2, rfl, h3, h4⟩⟩
section
variable {X : Cx} {dl : Dr X.w} {W : WX} {pos : Pos} {e : Expr}
end
end EK


namespace EK
open PySem PySem.Spec PyProof.Rows L2
mutual
def dflat : D → Bool
  | .non => true
  | .bl _ => true
  | .int _ => true
  | .str _ => true
  | .tup ds => dflats ds
  | .lst ds => dflats ds
  | _ => false
def dflats : List D → Bool
  | [] => true
  | d :: ds => dflat d && dflats ds
end
mutual
def noDc : PyData → Bool
  | .none => true
  | .bool _ => true
  | .int _ => true
  | .str _ => true
  | .tuple ps => noDcs ps
  | .list ps => noDcs ps
  | _ => false
def noDcs : List PyData → Bool
  | [] => true
  | p :: ps => noDc p && noDcs ps
end
def datP (d : D) : Option PyData := if dflat d = true then toP d else none
def LsA (h : Heap) (as : List Addr) : Prop := ∀ b ∈ as, ∃ o, h.get? b = some o ∧ o.cls = .type "list"
mutual
theorem reads_ls {h : Heap} : ∀ (p : PyData) (u : Value) (as : List Addr), noDc p = true → Reads h u p as → LsA h as
  | .none, _, _, _, r => by cases r; exact fun _ q => by cases q
  | .bool _, _, _, _, r => by cases r; exact fun _ q => by cases q
  | .int _, _, _, _, r => by cases r; exact fun _ q => by cases q
  | .str _, _, _, _, r => by cases r; exact fun _ q => by cases q
  | .tuple ps, _, _, e, r => by
    cases r with
    | tuple h1 h2 h3 h4 => exact reads_lss ps _ _ (by rw [noDc] at e; exact e) h4
  | .list ps, _, _, e, r => by
    cases r with
    | list h1 h2 h3 h4 =>
      have ih := reads_lss ps _ _ (by rw [noDc] at e; exact e) h4
      intro b hb
      rcases List.mem_cons.mp hb with rfl | hb
      · exact ⟨_, h1, h2⟩
      · exact ih b hb
theorem reads_lss {h : Heap} : ∀ (ps : List PyData) (us : List Value) (as : List Addr), noDcs ps = true → ReadsAll h us ps as → LsA h as
  | [], _, _, _, r => by cases r; exact fun _ q => by cases q
  | p :: ps, _, _, e, r => by
    rw [noDcs, Bool.and_eq_true] at e
    cases r with
    | cons r1 r2 =>
      intro b hb
      rcases List.mem_append.mp hb with hb | hb
      · exact reads_ls p _ _ e.1 r1 b hb
      · exact reads_lss ps _ _ e.2 r2 b hb
end
mutual
theorem dflat_noDc : ∀ (d : D) (p : PyData), dflat d = true → toP d = some p → noDc p = true
  | .non, _, _, e => by rw [toP] at e; cases e; rfl
  | .bl _, _, _, e => by rw [toP] at e; cases e; rfl
  | .int _, _, _, e => by rw [toP] at e; cases e; rfl
  | .str _, _, _, e => by rw [toP] at e; cases e; rfl
  | .tup ds, p, t, e => by
    rw [toP] at e
    cases e2 : toPs ds with
    | none => rw [e2] at e; cases e
    | some ps =>
      rw [e2] at e
      cases e
      rw [noDc]
      exact dflats_noDc ds ps (by rw [dflat] at t; exact t) e2
  | .lst ds, p, t, e => by
    rw [toP] at e
    cases e2 : toPs ds with
    | none => rw [e2] at e; cases e
    | some ps =>
      rw [e2] at e
      cases e
      rw [noDc]
      exact dflats_noDc ds ps (by rw [dflat] at t; exact t) e2
theorem dflats_noDc : ∀ (ds : List D) (ps : List PyData), dflats ds = true → toPs ds = some ps → noDcs ps = true
  | [], _, _, e => by rw [toPs] at e; cases e; rfl
  | d :: ds, ps, t, e => by
    rw [dflats, Bool.and_eq_true] at t
    rw [toPs] at e
    cases e1 : toP d with
    | none => rw [e1] at e; cases e
    | some p =>
      rw [e1, Option.bind_some] at e
      cases e2 : toPs ds with
      | none => rw [e2] at e; cases e
      | some qs =>
        rw [e2] at e
        cases e
        rw [noDcs, dflat_noDc d p t.1 e1, dflats_noDc ds qs t.2 e2]
        rfl
end
def dctPL (ks : List Key) (xs : List D) : Option PyData := (xs.mapM datP).map fun ps => .dict ((ks.map keyP).zip ps)
def reprL : List D → Option D
  | [.dct ks xs] => (dctPL ks xs).bind showX
  | ds => reprD ds
section
variable {X : Cx} {dl : Dr X.w} {pins : List (Addr × Obj)} {sg : L2.St} {F H : Hp} {s : Shared}
theorem dat_reads (I : L2.Inv X pins sg H s) (sub : Same F H) {d : D} {v : V} {u : Value} {p : PyData} (r : Rep X.K X.mg dl F d v) (e : datP d = some p) (ru : RelV v u) : ∃ as, Reads s.heap u p as ∧ LsA s.heap as := by
  unfold datP at e
  split at e
  · rename_i t
    obtain ⟨as, q⟩ := Dp.reads I p v _ (dp_of sub d v p r e) ru
    exact ⟨as, q, reads_ls p _ _ (dflat_noDc d p t e) q⟩
  · cases e
end
section
variable {K : PySem.W.Frag} {mg : Str → Option Value} {wd : World} {dl : Dr wd} {F H : Hp}
end
section
variable {X : Cx} {dl : Dr X.w} {W : WX}
end
end EK


namespace EK
open PySem PySem.Spec PyProof.Rows L2
def fuelZ (i : Nat) (G : Sls) : Nat := (match G[i]? with
  | some (some (.fz (.lst ds))) => ds.length
  | _ => 0) + 1
end EK


namespace EK
open PySem PySem.Spec PyProof.Rows L2
def sliceT (lo hi : Option Int) : D → Option D
  | .str x => if x.length ≤ sizeLine then some (.str (cutS x lo hi)) else none
  | _ => none
def gSlT (f : SE) (lo hi : SO) : SE := fun G => bnd (f G) fun d => bnd (lo G) fun l => bnd (hi G) fun u => ofO (sliceT l u d)
section
variable {X : Cx} {dl : Dr X.w} {W : WX}
end
end EK


namespace EK
open PySem PySem.Spec PyProof.Rows L2
def T.kid : T → Nat → Option T
  | .lst ts, j => ts[j]?
  | .dct _ ts, j => ts[j]?
  | _, _ => none
def T.at : T → List Nat → Option T
  | t, [] => some t
  | t, j :: p => (t.kid j).bind fun c => c.at p
termination_by _ p => p.length
def T.setKid : T → Nat → T → T
  | .lst ts, j, c => .lst (ts.set j c)
  | .dct k ts, j, c => .dct k (ts.set j c)
  | t, _, _ => t
def T.setAt : T → List Nat → T → T
  | _, [], n => n
  | t, j :: p, n => match t.kid j with
    | some c => t.setKid j (c.setAt p n)
    | none => t
termination_by _ p _ => p.length
/-- u is the item j of w -/
def KidV (H : Hp) (w : V) (j : Nat) (u : V) : Prop := ∃ (a : Addr) (vs : List V), w = .ref a ∧ (H a = some (.lst vs) ∨ ∃ k : OK, H a = some (k.ho vs) ∧ k.len = vs.length) ∧ vs[j]? = some u
def NodeV (H : Hp) : V → List Nat → V → Prop
  | v, [], u => u = v
  | v, j :: p, u => ∃ w, KidV H v j w ∧ NodeV H w p u
section
variable {K : PySem.W.Frag} {mg : Str → Option Value} {wd : World} {dl : Dr wd} {F H F' H' : Hp}
theorem KidV.det {j : Nat} {w u u' : V} (h : KidV H w j u) (h' : KidV H w j u') : u = u' := by
  obtain ⟨a, vs, rfl, h2, h3⟩ := h
  obtain ⟨b, ws, e, g2, g3⟩ := h'
  cases e
  have : vs = ws := by
    rcases h2 with h2 | ⟨k, h2, h4⟩ <;> rcases g2 with g2 | ⟨k', g2, g4⟩
    · rw [h2] at g2; cases g2; rfl
    · rw [h2] at g2; cases k' <;> cases g2
    · rw [h2] at g2; cases k <;> cases g2
    · rw [h2] at g2
      have e := Option.some.inj g2
      cases k with
      | k ks =>
        cases k' with
        | k ks' =>
          have e : ks.zip vs = ks'.zip ws := by injection e
          have := congrArg (List.map Prod.snd) e
          rw [List.map_snd_zip (by show vs.length ≤ ks.length; have : ks.length = vs.length := h4; omega), List.map_snd_zip (by have : ks'.length = ws.length := g4; omega)] at this
          exact this
        | t ks' => cases e
        | u n' => cases e
      | t ks =>
        cases k' with
        | t ks' =>
          have e : ks.zip vs = ks'.zip ws := by injection e
          have := congrArg (List.map Prod.snd) e
          rw [List.map_snd_zip (by show vs.length ≤ ks.length; have : ks.length = vs.length := h4; omega), List.map_snd_zip (by have : ks'.length = ws.length := g4; omega)] at this
          exact this
        | k ks' => cases e
        | u n' => cases e
      | u n =>
        cases k' with
        | k ks' => cases e
        | t ks' => cases e
        | u n' => injection e
  subst this
  rw [h3] at g3
  exact Option.some.inj g3
theorem NodeV.det : ∀ {p : List Nat} {v u u' : V}, NodeV H v p u → NodeV H v p u' → u = u'
  | [], v, u, u', h, h' => by
    have h : u = v := h
    have h' : u' = v := h'
    rw [h, h']
  | j :: p, v, u, u', h, h' => by
    obtain ⟨w, h1, h2⟩ := h
    obtain ⟨w', g1, g2⟩ := h'
    have := h1.det g1
    subst this
    exact NodeV.det h2 g2
theorem tr_node : ∀ {t : T} {v : V} {as : List Addr}, TR K mg dl F H t v as → ∀ a ∈ as, ∃ vs, H a = some (.lst vs) ∨ ∃ k : OK, H a = some (k.ho vs) := by
  have both : ∀ (n : Nat), (∀ (t : T) (v : V) (as : List Addr), sizeOf t < n → TR K mg dl F H t v as → ∀ a ∈ as, ∃ vs, H a = some (.lst vs) ∨ ∃ k : OK, H a = some (k.ho vs)) ∧
      (∀ (ts : List T) (vs : List V) (as : List Addr), sizeOf ts < n → TRL K mg dl F H ts vs as → ∀ a ∈ as, ∃ vs, H a = some (.lst vs) ∨ ∃ k : OK, H a = some (k.ho vs)) := by
    intro n
    induction n with
    | zero => exact ⟨fun t v as h => absurd h (Nat.not_lt_zero _), fun t v as h => absurd h (Nat.not_lt_zero _)⟩
    | succ n ih =>
      refine ⟨fun t v as hs h => ?_, fun ts vs as hs h => ?_⟩
      · cases t with
        | fz d =>
          obtain ⟨rfl, _⟩ := h
          exact fun a ha => nomatch ha
        | lst ts =>
          obtain ⟨a, vs, bs, h1, rfl, h3, h4, h5⟩ := h
          intro b hb
          rcases List.mem_cons.mp hb with rfl | hb
          · exact ⟨vs, .inl h3⟩
          · exact ih.2 ts vs bs (by simp at hs; omega) h5 b hb
        | dct k ts =>
          obtain ⟨a, vs, bs, h1, rfl, h3, h4, h5, h6⟩ := h
          intro b hb
          rcases List.mem_cons.mp hb with rfl | hb
          · exact ⟨vs, .inr ⟨k, h3⟩⟩
          · exact ih.2 ts vs bs (by simp at hs; omega) h6 b hb
      · cases ts with
        | nil =>
          obtain ⟨_, rfl⟩ := h
          exact fun a ha => nomatch ha
        | cons t ts =>
          obtain ⟨v, vs', a1, a2, rfl, rfl, h3, h4⟩ := h
          intro b hb
          rcases List.mem_append.mp hb with hb | hb
          · exact ih.1 t v a1 (by simp at hs; omega) h3 b hb
          · exact ih.2 ts vs' a2 (by simp at hs; omega) h4 b hb
  intro t v as h
  exact (both (sizeOf t + 1)).1 t v as (Nat.lt_succ_self _) h
theorem RepL.tree : ∀ {ds : List D} {vs : List V}, RepL K mg dl F ds vs → TRL K mg dl F H (ds.map T.fz) vs []
  | [], vs, h => ⟨h, rfl⟩
  | d :: ds, vs, h => by
    obtain ⟨v, vs', rfl, h1, h2⟩ := h
    exact ⟨v, vs', [], [], rfl, rfl, ⟨rfl, h1⟩, RepL.tree h2⟩
end
section
variable (X : Cx) (dl : Dr X.w) (W : WX)
def NewTs (H : Hp) (ts : List T) (F' H' : Hp) (vs : List V) : Prop := ∃ as, TRL X.K X.mg dl F' H' ts vs as ∧ as.Nodup ∧ ∀ a ∈ as, H a = none ∧ F' a = none
abbrev STr := Sls → M T
abbrev STs := Sls → M (List T)
def tDTr (f : STr) : TE := fun sg H Q => ∃ F, tGF X dl W F f (fun t F' H' => ∀ v, NewT X dl H t F' H' v → Q v H') sg H
def tDTs (f : STs) : TA := fun sg H Q => ∃ F, tGF X dl W F f (fun ts F' H' => ∀ vs, NewTs X dl H ts F' H' vs → Q vs H') sg H
abbrev DET (e : Expr) (f : STr) : Prop := PE X e (tDTr X dl W f)
abbrev DATs (es : List Expr) (f : STs) : Prop := PA X es (tDTs X dl W f)
end
section
variable {X : Cx} {dl : Dr X.w} {W : WX} {pos p : Pos} {e : Expr} {es : List Expr} {F0 H0 F H F1 H1 : Hp} {E : Ends}
theorem NewT.step {t : T} {v : V} {F2 H2 : Hp} {s : DS} (w : Wd dl F H s) (h : NewT X dl H t F1 H1 v) (st : Step dl F1 H1 F2 H2) : NewT X dl H t F2 H2 v := by
  obtain ⟨as, h1, h2, h3⟩ := h
  have so := TR.some t v as h1
  refine ⟨as, TR.mono st.fs t v as (fun a ha => ?_) h1, h2, fun a ha => ⟨(h3 a ha).1, ?_⟩⟩
  · obtain ⟨o, ho⟩ := so a ha
    rw [ho]
    exact st.hs a o (w.na (h3 a ha).1) ho
  · obtain ⟨o, ho⟩ := so a ha
    cases q : F2 a with
    | none => rfl
    | some u =>
      rcases st.nw a u q with z | z
      · rw [(h3 a ha).2] at z; cases z
      · rw [ho] at z; cases z
def trF (f : SE) : STr := fun G => bnd (f G) fun d => ret (.fz d)
def trO (f : SA) : STr := fun G => bnd (f G) fun ds => ret (.lst (ds.map T.fz))
def trX (f : SX) : STr := fun G => bnd (f G) fun r => ret (.dct r.1 (r.2.map T.fz))
def trPairs : List (SE × STr) → Sls → M (List (Key × T))
  | [], _ => ret []
  | p :: r, G => bnd (p.1 G) fun y => bnd (ofO (keyOf y)) fun j => bnd (p.2 G) fun z => bnd (trPairs r G) fun rest => ret ((j, z) :: rest)
def trDisp (l : List (SE × STr)) : STr := fun G => bnd (trPairs l G) fun kvs => ofO (if kvs.length ≤ 15 ∧ nodupK (kvs.map (·.1)) = true then some (.dct (.k (kvs.map (·.1))) (kvs.map (·.2))) else none)
abbrev trsT (X : Cx) (dl : Dr X.w) (W : WX) (l : List (SE × STr)) : List (TE × TE) := l.map fun p => (tD X dl W p.1, tDTr X dl W p.2)
theorem NewT.cons {t : T} {v : V} {ts : List T} {vs : List V} {F2 H2 : Hp} {s : DS} (w : Wd dl F H s) (h : NewT X dl H t F1 H1 v) (st : Step dl F1 H1 F2 H2) (al : ∀ b, H1 b = none → H b = none) (hs : NewTs X dl H1 ts F2 H2 vs) : NewTs X dl H (t :: ts) F2 H2 (v :: vs) := by
  have so : ∃ as, TR X.K X.mg dl F1 H1 t v as ∧ as.Nodup ∧ ∀ a ∈ as, H a = none ∧ F1 a = none := h
  obtain ⟨as, h1, h2, h3⟩ := so
  obtain ⟨as', k1, k2, k3⟩ := NewT.step w h st
  have e : as' = as := by
    have m := TR.mono st.fs t v as (fun a ha => by
      obtain ⟨o, ho⟩ := TR.some t v as h1 a ha
      rw [ho]
      exact st.hs a o (w.na (h3 a ha).1) ho) h1
    exact TR.det t v _ _ k1 m
  subst e
  obtain ⟨bs, g1, g2, g3⟩ := hs
  refine ⟨as' ++ bs, ⟨v, vs, as', bs, rfl, rfl, k1, g1⟩, List.nodup_append.mpr ⟨k2, g2, fun x hx y hy e => ?_⟩, fun a ha => ?_⟩
  · subst e
    obtain ⟨o, ho⟩ := TR.some t v as' h1 x hx
    rw [(g3 x hy).1] at ho
    cases ho
  · rcases List.mem_append.mp ha with q | q
    · exact k3 a q
    · exact ⟨al a (g3 a q).1, (g3 a q).2⟩
end
end EK


namespace EK
open PySem PySem.Spec PyProof.Rows L2
def treeAt (G : Sls) (i : Nat) : Option T := match G[i]? with
  | some (some (.tree t)) => some t
  | _ => none
section
variable {X : Cx} {dl : Dr X.w} {W : WX} {pos p : Pos} {e : Expr} {es : List Expr} {F0 H0 F H F1 H1 : Hp} {E : Ends}
/-- a new tree in a slot -/
def sTr (i : Nat) (f : STr) : SS := fun G => bnd (f G) fun t => ret (.next (G.set i (some (.tree t))))
abbrev SPth := Sls → M (List Nat)
section
variable (X : Cx) (dl : Dr X.w) (W : WX)
def tPth (i : Nat) (f : SPth) : TE := fun sg H Q => ∃ F, tGF X dl W F f (fun p _ H' => ∀ v u, sg[i]? = some (some v) → NodeV H' v p u → Q u H') sg H
abbrev DPt (i : Nat) (e : Expr) (f : SPth) : Prop := PE X e (tPth X dl W i f)
end
def gT0 (i : Nat) : SPth := fun G => bnd (ofO (treeAt G i)) fun _ => ret []
def posK : List Key → Key → Option Nat
  | [], _ => none
  | k :: ks, j => if k = j then some 0 else (posK ks j).map (· + 1)
def T.posOf (n : T) (k : D) : Option Nat := match n with
  | .dct (.k ks) _ => (keyOf k).bind fun j => posK ks j
  | _ => none
def gTK (i : Nat) (fp : SPth) (fk : SE) : SPth := fun G => bnd (fp G) fun p => bnd (fk G) fun k => bnd (ofO (treeAt G i)) fun t => bnd (ofO (t.at p)) fun n => bnd (ofO (n.posOf k)) fun j => bnd (ofO (n.kid j)) fun _ => ret (p ++ [j])
/-- a leaf read -/
def gLeaf (i : Nat) (fp : SPth) : SE := fun G => bnd (fp G) fun p => bnd (ofO (treeAt G i)) fun t => bnd (ofO (t.at p)) fun n => match n with
  | .fz d => ret d
  | _ => fail
def NewAt (X : Cx) (dl : Dr X.w) (H0 F H : Hp) (sg : L2.St) (G : Sls) (x : Addr) : Prop := F x = none ∧ H0 x = none ∧ ¬ dl.has x ∧ (∀ fp, TrOk X.K X.mg dl H0 F H sg G fp → ∀ (j : Nat) (t : T), G[j]? = some (some (.tree t)) → x ∉ fp j) ∧ ∀ (j : Nat) (s : Sl), G[j]? = some (some s) → s.isOwn = true → sg[j]? ≠ some (some (.ref x))
end
end EK


namespace EK
open PySem PySem.Spec PyProof.Rows L2
section
variable {K : PySem.W.Frag} {mg : Str → Option Value} {wd : World} {dl : Dr wd} {F H : Hp}
end
def T.putK (n : T) (j : Key) (tv : T) : Option T := match n with
  | .dct (.k ks) ts => if ks.length < 1000 then some (.dct (.k (putKs ks j)) (putXs ks ts j tv)) else none
  | _ => none
section
variable {X : Cx} {dl : Dr X.w} {W : WX} {pos p : Pos} {e : Expr} {es : List Expr} {F0 H0 F H F1 H1 : Hp} {E : Ends}
/-- x[..][k] = e -/
def sSetT (i : Nat) (fv : STr) (fp : SPth) (fk : SE) : SS := fun G => bnd (fv G) fun tv => bnd (fp G) fun p => bnd (fk G) fun k => bnd (ofO (keyOf k)) fun j => bnd (ofO (treeAt G i)) fun t => bnd (ofO (t.at p)) fun n => bnd (ofO (n.putK j tv)) fun n' => ret (.next (G.set i (some (.tree (t.setAt p n')))))
/-- x[..].append(e) -/
def lstAt (G : Sls) (i : Nat) (p : List Nat) : Option (T × List T) := match treeAt G i with
  | some t => match t.at p with
    | some (.lst ts) => some (t, ts)
    | _ => none
  | none => none
def sAppT (i : Nat) (fp : SPth) (f : SE) : SS := fun G => bnd (fp G) fun p => bnd (ofO (lstAt G i p)) fun r => bnd (f G) fun d => if r.2.length < sizeLine then ret (.next (G.set i (some (.tree (r.1.setAt p (.lst (r.2 ++ [.fz d]))))))) else fail
/-- x[..].clear() of a list -/
def sClrT (i : Nat) (fp : SPth) : SS := fun G => bnd (fp G) fun p => bnd (ofO (lstAt G i p)) fun r => ret (.next (G.set i (some (.tree (r.1.setAt p (.lst []))))))
end
inductive LockC (P : Hp → Prop) : Hp → Prop where
  | here {H : Hp} : P H → LockC P H
  | lock {H : Hp} {d : Addr} {u : HO} : H d = some u → Mut (some u) → (∀ od, LockC P (upd H d (.frz od u))) → LockC P H
theorem LockC.join {P : Hp → Prop} {H : Hp} (h : LockC (LockC P) H) : LockC P H := by
  induction h with
  | here h => exact h
  | lock hd mu _ ih => exact .lock hd mu ih
section
variable {X : Cx} {dl : Dr X.w} {W : WX}
theorem Sim.frzT {F0 H0 F H F' H' : Hp} {sg : L2.St} {G : Sls} {i : Nat} {t : T} {v : V} {fp : Nat → List Addr} (S : Sim X.K X.mg dl F0 H0 F H sg G) (ei : G[i]? = some (some (.tree t))) (T1 : TrOk X.K X.mg dl H0 F H sg G fp) (es : sg[i]? = some (some v)) (sm : Same F F')
    (off : ∀ x, x ∉ fp i → H' x = H x ∧ F' x = F x) (rp : Rep X.K X.mg dl F' t.data v) : Sim X.K X.mg dl F0 H0 F' H' sg (G.set i (some (.fz t.data))) := by
  obtain ⟨v', q1, q2, q3, q4⟩ := T1.at_ i t ei
  have hil : i < G.length := (List.getElem?_eq_some_iff.mp ei).1
  have old : ∀ (j : Nat) (w : Sl), (G.set i (some (.fz t.data)))[j]? = some (some w) → (i = j ∧ w = .fz t.data) ∨ (i ≠ j ∧ G[j]? = some (some w)) := fun j w e => by
    by_cases z : i = j
    · subst z
      rw [List.getElem?_set_self hil] at e
      cases e
      exact .inl ⟨rfl, rfl⟩
    · rw [List.getElem?_set_ne z] at e
      exact .inr ⟨z, e⟩
  have offO : ∀ (j : Nat) (w : Sl) (c : Addr), G[j]? = some (some w) → w.isOwn = true → sg[j]? = some (some (.ref c)) → H' c = H c ∧ F' c = F c := fun j w c ej o ec => off c (T1.nx i j t w c ei ej o ec)
  refine ⟨by rw [List.length_set]; exact S.len, fun j w ej => ?_, fun j k w w' e1 e2 o1 o2 e3 => ?_, ⟨fun b o e => sm b o (S.st.fs b o e), fun b o nb eb => ?_, fun b o eb => ?_, fun b eb => ?_⟩, ?_⟩
  · rcases old j w ej with ⟨rfl, rfl⟩ | ⟨z, z2⟩
    · exact ⟨v, es, rp⟩
    obtain ⟨x, k1, k2⟩ := S.sl j w z2
    refine ⟨x, k1, ?_⟩
    cases w with
    | fz d => exact Rep.mono sm d x k2
    | own es' =>
      obtain ⟨c, ws, rfl, y2, y3, y4, y5, y6, y7⟩ := k2
      exact ⟨c, ws, rfl, by rw [(offO j _ c z2 rfl k1).1]; exact y2, by rw [(offO j _ c z2 rfl k1).2]; exact y3, y4, y5, y6, RepL.mono sm _ _ y7⟩
    | ini cc nn es' =>
      obtain ⟨c, dx, C, ws, rfl, y2, y3, y4, y5, y6, y7, y8, y9, y10, y11, y12, y13⟩ := k2
      have od := off dx fun z => by
        obtain ⟨vs, q | ⟨k, q⟩⟩ := tr_node q2 dx z
        · rw [y4] at q; cases q
        · rw [y4] at q; cases k <;> cases q
      exact ⟨c, dx, C, ws, rfl, y2, by rw [(offO j _ c z2 rfl k1).1]; exact y3, by rw [od.1]; exact y4, by rw [(offO j _ c z2 rfl k1).2]; exact y5, by rw [od.2]; exact y6, y7, y8, y9, y10, y11, y12, RepL.mono sm _ _ y13⟩
    | ownX kk es' =>
      obtain ⟨c, ws, rfl, y2, y3, y4, y5, y6, y7, y8⟩ := k2
      exact ⟨c, ws, rfl, by rw [(offO j _ c z2 rfl k1).1]; exact y2, by rw [(offO j _ c z2 rfl k1).2]; exact y3, y4, y5, y6, y7, RepL.mono sm _ _ y8⟩
    | tree _ => trivial
  · rcases old j w e1 with ⟨rfl, rfl⟩ | ⟨z, z2⟩
    · cases o1
    rcases old k w' e2 with ⟨rfl, rfl⟩ | ⟨y, y2⟩
    · cases o2
    exact S.dis j k w w' z2 y2 o1 o2 e3
  · rw [(off b fun z => by
      have := (q4 b z).2.1
      rw [eb] at this
      cases this).1]
    exact S.st.hs b o nb eb
  · by_cases z : b ∈ fp i
    · exact .inr (q4 b z).2.1
    · rw [(off b z).2] at eb
      exact S.st.nw b o eb
  · by_cases z : b ∈ fp i
    · exact (q4 b z).2.1
    · rw [(off b z).1] at eb
      exact S.st.al b eb
  · refine ⟨fp, fun j w ej => ?_, fun j k w w' e1 e2 hjk a ha => ?_, fun j k w s' a e1 e2 o ea => ?_⟩
    · rcases old j _ ej with ⟨rfl, q⟩ | ⟨z, z2⟩
      · cases q
      obtain ⟨x, y1, y2, y3, y4⟩ := T1.at_ j w z2
      have dj : ∀ a ∈ fp j, a ∉ fp i := T1.dj j i w t z2 ei (Ne.symm z)
      exact ⟨x, y1, TR.mono sm w x _ (fun a ha => (off a (dj a ha)).1) y2, y3, fun a ha => ⟨by rw [(off a (dj a ha)).2]; exact (y4 a ha).1, (y4 a ha).2⟩⟩
    · rcases old j _ e1 with ⟨rfl, q⟩ | ⟨z, z2⟩
      · cases q
      rcases old k _ e2 with ⟨rfl, q⟩ | ⟨y, y2⟩
      · cases q
      exact T1.dj j k w w' z2 y2 hjk a ha
    · rcases old j _ e1 with ⟨rfl, q⟩ | ⟨z, z2⟩
      · cases q
      rcases old k _ e2 with ⟨rfl, q⟩ | ⟨y, y2⟩
      · subst q; cases o
      exact T1.nx j k w s' a z2 y2 o ea
def frzT (i : Nat) (G : Sls) : Sls := match treeAt G i with
  | some t => G.set i (some (.fz t.data))
  | none => G
def sFrzT (i : Nat) (f : SS) : SS := fun G => f (frzT i G)
end
end EK


namespace EK
open PySem PySem.Spec PyProof.Rows L2
section
variable (X : Cx) (dl : Dr X.w)
def gDH (f : SG) : TG := fun v sg H Q => ∃ (F0 H0 F : Hp) (G : Sls) (s : DS) (d : D) (G' : Sls), Wd dl F H s ∧ Sim X.K X.mg dl F0 H0 F H sg G ∧ Rep X.K X.mg dl F d v ∧ f G d = some G' ∧
  ∀ H', Wd dl F H' s → Sim X.K X.mg dl F0 H0 F H' sg G' → Q sg H'
def gDHs (f : Sls → List D → Option Sls) : TGs := fun vs sg H Q => ∃ (F0 H0 F : Hp) (G : Sls) (s : DS) (ds : List D) (G' : Sls), Wd dl F H s ∧ Sim X.K X.mg dl F0 H0 F H sg G ∧ RepL X.K X.mg dl F ds vs ∧ f G ds = some G' ∧
  ∀ H', Wd dl F H' s → Sim X.K X.mg dl F0 H0 F H' sg G' → Q sg H'
abbrev DGH (tg : Expr) (f : SG) : Prop := PG X tg (gDH X dl f)
abbrev DGHs (tgs : List Expr) (f : Sls → List D → Option Sls) : Prop := PGs X tgs (gDHs X dl f)
end
def sgK (i : Nat) (k : Str) : SG := fun G d => (treeAt G i).bind fun t => (t.putK (.inr k) (.fz d)).map fun t' => G.set i (some (.tree t'))
section
variable {X : Cx} {dl : Dr X.w} {W : WX} {pos p q2 : Pos} {e : Expr} {es : List Expr} {f : SE}
def sgKs0 : Sls → List D → Option Sls := fun G ds => match ds with
  | [] => some G
  | _ => none
def sgKsC (f : SG) (r : Sls → List D → Option Sls) : Sls → List D → Option Sls := fun G ds => match ds with
  | d :: ds => (f G d).bind fun G' => r G' ds
  | [] => none
def sgTT (l : List SG) : SG := fun G d => (itemsT d).bind fun ds => (l.foldr sgKsC sgKs0) G ds
end
abbrev SNT := Sls → M T
section
variable (X : Cx) (dl : Dr X.w) (W : WX)
def GoNT (F0 H0 : Hp) (r : Option (Res T × DS)) (E : Ends) : Prop := match r with
  | none => False
  | some (.ok t, s') => ∀ F' H' v, Step dl F0 H0 F' H' → Wd dl F' H' s' → NewT X dl H0 t F' H' v → E.rt v H'
  | some (.err x, s') => ∀ F' H' sg' cls d, Step dl F0 H0 F' H' → Wd dl F' H' s' → ExRep X.mg X.K dl F' H' x cls d → W cls d sg' H'
def tSNT (f : SNT) : TS := fun E sg H => ∃ (F0 H0 F : Hp) (G : Sls) (s : DS), Wd dl F H s ∧ Sim X.K X.mg dl F0 H0 F H sg G ∧ GoNT X dl W F0 H0 (f G s) E
abbrev DSNT (st : List Stmt) (f : SNT) : Prop := PSs X st (tSNT X dl W f)
end
section
variable {X : Cx} {dl : Dr X.w} {W : WX} {pos p : Pos}
def sSeqT (f : SS) (g : SNT) : SNT := fun G => bnd (f G) fun o => match o with
  | .next G' => g G'
  | _ => fail
/-- return x, x the def's own tree -/
def gTreeV (i : Nat) : SNT := fun G => ofO (treeAt G i)
end
def spT (K : PySem.W.Frag) (mg : Str → Option Value) (w : World) (n : Nat) (m : List D → M T) : Sp := fun vs H Q E => vs.length = n ∧ ∃ (dl : Dr w) (F : Hp) (ds : List D) (s : DS), Wd dl F H s ∧ RepL K mg dl F ds vs ∧
  Go mg K dl E F H (m ds s) fun t _ F' H' => ∀ v, (∃ as, TR K mg dl F' H' t v as ∧ as.Nodup ∧ ∀ a ∈ as, H a = none ∧ F' a = none) → Q v H'
def runT (n : Nat) (b : SNT) (ds : List D) : M T := b (startG n ds)
structure DFnT (P : Program) (w : World) (K : PySem.W.Frag) (mg : Str → Option Value) (base : Heap) (x : Str) (k n : Nat) (m : List D → M T) : Prop where
  ex : ∃ (f : Addr) (fd : FuncData) (ps : List Str), mg x = some (.ref f) ∧ PySem.W.keepIn K (.ref f) = true ∧ ps.length = n ∧ Binds K fd ps [] ∧ FnOk P w K mg base (L2.CX P w) k f fd ps (spT K mg w n m)
section
variable {X : Cx} {dl : Dr X.w} {W : WX} {pos p : Pos} {x : Str} {e : Expr} {es : List Expr} {ra : SA} {k n : Nat} {m : List D → M T}
def gCallT (n : Nat) (m : List D → M T) (ra : SA) : STr := fun G => bnd (ra G) fun ds => if ds.length = n then m ds else fail
end
section
variable {X : Cx} {dl : Dr X.w} {W : WX} {pos p : Pos} {e : Expr} {es : List Expr}
def trs0 : STs := fun _ => ret []
def trsC (f : STr) (r : STs) : STs := fun G => bnd (f G) fun t => bnd (r G) fun ts => ret (t :: ts)
def trL (r : STs) : STr := fun G => bnd (r G) fun ts => ofO (if ts.length ≤ sizeLine then some (.lst ts) else none)
end
end EK


namespace EK
open PySem PySem.Spec PyProof.Rows L2
section
variable {X : Cx} {dl : Dr X.w} {W : WX} {pos p : Pos} {e : Expr} {es : List Expr} {F0 H0 F H F1 H1 : Hp} {E : Ends}
/-- an item of a list of a tree, counted from the front -/
def T.ixOf (n : T) (k : D) : Option Nat := match n, k with
  | .lst ts, .int (.ofNat j) => if j < ts.length then some j else none
  | .dct (.u _) ts, .int (.ofNat j) => if j < ts.length then some j else none
  | _, _ => none
def gTI (i : Nat) (fp : SPth) (fk : SE) : SPth := fun G => bnd (fp G) fun p => bnd (fk G) fun k => bnd (ofO (treeAt G i)) fun t => bnd (ofO (t.at p)) fun n => bnd (ofO (n.ixOf k)) fun j => ret (p ++ [j])
def OK.isU : OK → Bool
  | .u _ => true
  | _ => false
mutual
def T.flat : T → Bool
  | .fz _ => true
  | .lst ts => T.flats ts
  | .dct k ts => k.isU && T.flats ts
def T.flats : List T → Bool
  | [] => true
  | t :: ts => t.flat && T.flats ts
end
/-- what is known without the addresses of as -/
def dropF (F : Hp) (as : List Addr) : Hp := fun a => if a ∈ as then none else F a
/-- the test u, which may look at the tree of slot i as a whole -/
def lendT (i : Nat) (u : ST) : ST := fun G => match treeAt G i with
  | some t => if t.flat = true then noErr (u (G.set i (some (.fz t.data)))) else fail
  | none => fail
end
end EK


namespace EK
open PySem PySem.Spec PyProof.Rows L2
def sortKeyO (m : List D → M D) : List D → M (List D)
  | [.lst xs] => bnd (mapMM (fun d => noErr (m [d])) xs) fun ks => if canSort ks then ret (sortKL xs ks) else fail
  | _ => fail
section
variable {X : Cx} {dl : Dr X.w} {W : WX}
def rKeyO (X : Cx) (dl : Dr X.w) (f : Addr) (m : List D → M D) : List V → List V → Hp → VK → Prop := fun xs zs H Q => zs = [.ref f] ∧ ∃ (F : Hp) (st : DS) (ds : List D), Wd dl F H st ∧ RepL X.K X.mg dl F ds xs ∧ Go X.mg X.K dl (fun _ _ _ => False) F H (sortKeyO m ds st) fun es _ F' H' => ∀ a, NewL X dl H es F' H' a → Q (.ref a) H'
def gSortKO (m : List D → M D) (fa : SA) : SA := fun G => bnd (fa G) fun ds => noErr (sortKeyO m ds)
variable {p pf pos kpos : Pos} {fn x : Str} {e : Expr} {es : List Expr} {ra : SA} {k : Nat} {m : List D → M D} {f : SE} {F0 H0 F H : Hp} {E : Ends}
def slT (f : STr) : Sls → M Sl := fun G => bnd (f G) fun t => ret (.tree t)
def lstOf : D → Option (List D)
  | .lst xs => some xs
  | _ => none
def sExt (i : Nat) (f : SE) : SS := fun G => match G[i]? with
  | some (some (.own ds)) => bnd (f G) fun d => bnd (ofO (lstOf d)) fun es => if ds.length + es.length ≤ sizeLine then ret (.next (G.set i (some (.own (ds ++ es))))) else fail
  | _ => fail
end
end EK


namespace EK
open PySem PySem.Spec PyProof.Rows L2
section
variable {X : Cx} {dl : Dr X.w} {W : WX}
def sFrzN (i : Nat) (g : SN) : SN := fun G => g (frz i G)
def sFrzU (i : Nat) (g : SNT) : SNT := fun G => g (frz i G)
end
end EK


namespace EK
open PySem PySem.Spec PyProof.Rows L2
section
variable {X : Cx} {dl : Dr X.w} {W : WX} {e : Expr}
/-- the expression f, which may look at the own list of slot i as a whole -/
def lendO (i : Nat) (f : SE) : SE := fun G => match G[i]? with
  | some (some (.own _)) => noErr (bnd (f (frz i G)) fun d => if flatD d = true then ret d else fail)
  | _ => fail
end
end EK


namespace EK
open PySem PySem.Spec PyProof.Rows L2
section
variable {P : Program} {w : World}
abbrev NoCls (P : Program) (w : World) (n : Nat) (v : Value) (s : Shared) : Prop := ∀ (A : Around) (E : Value → Shared → Prop) (Q : Bool → Shared → Prop), Q false s → wpAny (model P w) A (ofAClassStatement n v) Q E s
abbrev SomeVal (P : Program) (w : World) (n : Nat) (v : Value) (s : Shared) : Prop := ∀ (A : Around) (E : Value → Shared → Prop) (Q : Bool → Shared → Prop), (∀ b, Q b s) → wpAny (model P w) A (hashByValue n v) Q E s
end
end EK


namespace EK
open PySem PySem.Spec PyProof.Rows L2
section
variable {P : Program} {w : World} {κ : Type} [DecidableEq κ]
/-- what a kind of tuples gives for standing in sets -/
structure InSets (knd : HeapKind P w κ) : Prop where
  st : knd.Stays
  cls : ∀ {s : Shared} {k : κ} {a : Addr}, knd.is s.heap k a → NoCls P w 8 (.ref a) s
  val : ∀ {s : Shared} {k : κ} {a : Addr}, knd.is s.heap k a → SomeVal P w 8 (.ref a) s
variable {knd : HeapKind P w κ} (I : InSets knd) {A : Around} {E : Value → Shared → Prop} {s : Shared}
include I
omit I
variable (knd) in
def rowsK (L : List (Addr × κ)) : List (Int × Value) := L.map fun p => (knd.hash p.2, Value.ref p.1)
variable (knd) in
/-- the set at a has the tuples L -/
structure TSet (h : Heap) (a : Addr) (L : List (Addr × κ)) (es : Array (Int × Value)) (ep : Nat) (t : SetTable) : Prop where
  ob : ∃ o, h.get? a = some o ∧ o.ExactSet ∧ o.data = .set es ep t
  rw_ : es.toList = rowsK knd L
  tab : TabOk t (L.map fun p => knd.hash p.2)
  nd : (L.map (·.2)).Nodup
  el : ∀ p ∈ L, knd.is h p.2 p.1
  led : w.params.followText "set-order" = true ∨ t.led = true
  room : L.length * 5 < t.mask * 3
  few : L.length < 64
variable {a : Addr} {L : List (Addr × κ)} {es : Array (Int × Value)} {ep : Nat} {t : SetTable}
theorem rowsK_len {L : List (Addr × κ)} {es : Array (Int × Value)} (e : es.toList = rowsK knd L) : es.size = L.length := by
  have q := congrArg List.length e
  rw [rowsK, Array.length_toList, List.length_map] at q
  exact q
theorem fits_of {hs : List Int} (T : TabOk t hs) {n : Nat} (hn : n = hs.length) (hm : n ≤ t.mask) : t.fits n = true := by
  have q := T.sz
  unfold SetTable.fits SetTable.fill
  rw [T.dm, Bool.and_eq_true, beq_iff_eq, decide_eq_true_eq]
  show t.place.size = n ∧ t.place.size + 0 ≤ t.mask
  omega
theorem TSet.fits (R : TSet knd s.heap a L es ep t) : t.fits es.size = true := fits_of R.tab (by rw [rowsK_len R.rw_, List.length_map]) (by have := rowsK_len R.rw_; have := R.room; omega)
abbrev prb (t : SetTable) (h : Int) (c : Nat) : SetTable.Probe := nth t.mask (runAt t.mask (SetTable.bits h % (t.mask + 1)) (SetTable.bits h)) c
include I
omit I
include I
end
end EK


namespace EK
open PySem PySem.Spec PyProof.Rows L2
section
variable {P : Program} {w : World} {κ : Type} [DecidableEq κ] {knd : HeapKind P w κ} (I : InSets knd) {A : Around} {E : Value → Shared → Prop} {s : Shared}
/-- the set L has what the items ps bring, each once -/
def HasK (ps L : List (Addr × κ)) : Prop := (∀ p ∈ L, p ∈ ps) ∧ (L.map (·.2)).Perm (dedupK (ps.map (·.2)))
def HasAt (ps : List (Addr × κ)) (i : Nat) (L : List (Addr × κ)) : Prop := (∀ p ∈ L, p ∈ ps) ∧ (L.map (·.2)).Perm (dedupK ((ps.take i).map (·.2))) ∧ L.length ≤ i
theorem HasAt.next {ps L L1 : List (Addr × κ)} {i : Nat} {p : Addr × κ} (h : HasAt ps i L) (hp : ps[i]? = some p) (c1 : p.2 ∈ L.map (·.2) → L1 = L) (c2 : p.2 ∉ L.map (·.2) → L1.Perm (p :: L)) : HasAt ps (i + 1) L1 := by
  obtain ⟨h1, h2, h3⟩ := h
  have e : dedupK ((ps.take (i + 1)).map (·.2)) = addK (dedupK ((ps.take i).map (·.2))) p.2 := by
    rw [List.take_add_one, hp]
    unfold dedupK
    rw [Option.toList_some, List.map_append, List.foldl_append]
    rfl
  by_cases c : p.2 ∈ L.map (·.2)
  · rw [c1 c]
    refine ⟨h1, ?_, by omega⟩
    rw [e, addK, if_pos (h2.mem_iff.mp c)]
    exact h2
  · have q := c2 c
    refine ⟨fun r hr => ?_, ?_, by rw [q.length_eq, List.length_cons]; omega⟩
    · rcases List.mem_cons.mp (q.mem_iff.mp hr) with z | z
      · rw [z]; exact List.mem_of_getElem? hp
      · exact h1 r z
    · rw [e, addK, if_neg fun z => c (h2.mem_iff.mpr z)]
      exact ((q.map (·.2)).trans (List.Perm.cons _ h2)).trans (List.perm_append_singleton _ _).symm
theorem TSet.keep {h h' : Heap} {a : Addr} {L : List (Addr × κ)} {es : Array (Int × Value)} {ep : Nat} {t : SetTable} (R : TSet knd h a L es ep t) (ha : ∀ o, h.get? a = some o → h'.get? a = some o) (ht : ∀ p ∈ L, knd.is h' p.2 p.1) : TSet knd h' a L es ep t := by
  obtain ⟨o, ho, r⟩ := R.ob
  exact ⟨⟨o, ha o ho, r⟩, R.rw_, R.tab, R.nd, ht, R.led, R.room, R.few⟩
include I
variable {a : Addr}
end
end EK


namespace EK
open PySem PySem.Spec PyProof.Rows L2
mutual
def kD : NestedKey → D
  | .none => .non
  | .num i => .int i
  | .text x => .str x
  | .tup ks => .tup (kDs ks)
def kDs : List NestedKey → List D
  | [] => []
  | k :: ks => kD k :: kDs ks
end
def injK (ks : List NestedKey) : Bool := ks.all fun a => ks.all fun b => !decide (PySem.W.keyToks a.data = PySem.W.keyToks b.data) || decide (a = b)
/-- sorted(set(xs)) -/
def sortedSetD (d : D) : Option D := (itemsTL d).bind fun xs => (nkDs xs).bind fun ks =>
  if (decide (ks.length < 64) && (ks.all fun k => isTupK k && decide (k.depth ≤ 8)) && injK ks && canSort ((dedupK ks).map kD)) = true then some (.lst (sortL ((dedupK ks).map kD))) else none
section
variable {prog : Program} {w : World} {A : Around} {E : Value → Shared → Prop} {s : Shared}
end
section
variable {X : Cx} {dl : Dr X.w} {W : WX}
end
end EK


namespace EK
open PySem PySem.Spec PyProof.Rows L2
section
open PySem.SeqAt
open AutoSeq1 (wpAny_loadPart')
open MeetsSeq MeetsSeq2 MeetsSeq3
end
section
variable {X : Cx} {dl : Dr X.w}
/-- !=, a dict beside a tuple among them -/
def neX (x y : D) : Option D := match x, y with
  | .dct _ _, .tup _ => some (.bl true)
  | x, y => neD x y
end
end EK


namespace EK
open PySem PySem.Spec PyProof.Rows L2
mutual
/-- data of texts, numbers and tuples alone -/
def tupsD : D → Bool
  | .non => true
  | .bl _ => true
  | .int _ => true
  | .str _ => true
  | .tup ds => tupsDs ds
  | _ => false
def tupsDs : List D → Bool
  | [] => true
  | d :: ds => tupsD d && tupsDs ds
end
section
variable {X : Cx} {dl : Dr X.w} {W : WX} {e : Expr} {f : SA} {pos : Pos}
def sExtO (i : Nat) (f : SA) : SS := fun G => match G[i]? with
  | some (some (.own ds)) => bnd (noErr (f (frz i G))) fun es => if (tupsDs es && decide (ds.length + es.length ≤ sizeLine)) = true then ret (.next (G.set i (some (.own (ds ++ es))))) else fail
  | _ => fail
end
end EK


namespace EK
open PySem PySem.Spec PyProof.Rows L2
section
variable (X : Cx) (dl : Dr X.w) (W : WX)
/-- x.append(e) as an expression, x the own list of slot i -/
def tApp (i : Nat) (f : SE) : TE := fun sg H Q => ∃ (F F0 H0 : Hp) (G : Sls) (s : DS) (ds : List D), Wd dl F H s ∧ Sim X.K X.mg dl F0 H0 F H sg G ∧ G[i]? = some (some (.own ds)) ∧
  Go X.mg X.K dl (fun c d H' => W c d sg H') F H (f G s) fun d s1 F1 H1 => ∀ v a us, Rep X.K X.mg dl F1 d v → sg[i]? = some (some (.ref a)) → H1 a = some (.lst us) → RepL X.K X.mg dl F1 ds us → us.length < sizeLine ∧ Q .non (upd H1 a (.lst (us ++ [v])))
end
section
variable {X : Cx} {dl : Dr X.w} {W : WX} {e : Expr} {f : SE} {pos : Pos}
/-- y = caught(lambda: x.append(e)): i the slot of y, j that of x -/
def sCaughtApp (i j : Nat) (kx : List Str) (f : SE) : SS := fun G => match G[j]? with
  | some (some (.own ds)) => fun s => match f G s with
    | none => none
    | some (.ok d, s') => if ds.length < sizeLine then some (.ok (.next ((G.set j (some (.own (ds ++ [d])))).set i (some (.fz .non)))), s') else none
    | some (.err x, s') => if kx.contains x.cls then some (.ok (.next (G.set i (some (.fz (.exc x.cls x.ns x.xs))))), s') else none
  | _ => fail
end
end EK


namespace EK
open PySem PySem.Spec PyProof.Rows L2
def boolsD : D → Option (List Bool)
  | .lst ds => bools ds
  | _ => none
def asBl : D → Option Bool
  | .bl k => some k
  | _ => none
def gCnt (fa fb : SE) : SE := fun G => bnd (fa G) fun x => bnd (ofO (boolsD x)) fun bs => bnd (fb G) fun y => ofO ((asBl y).map fun k => .int ((bs.count k : Nat) : Int))
def gIdx (fa fb : SE) : SE := fun G => bnd (fa G) fun x => bnd (ofO (boolsD x)) fun bs => bnd (fb G) fun y => ofO ((asBl y).bind fun k => if k ∈ bs then some (.int ((bs.idxOf k : Nat) : Int)) else none)
section
variable {X : Cx}
variable {dl : Dr X.w} {W : WX} {o e : Expr} {fa fb : SE} {apos pos : Pos}
end
end EK


namespace EK
open PySem PySem.Spec PyProof.Rows L2
section
variable (X : Cx) (dl : Dr X.w)
def gDM (f : SG) : TG := fun v sg H Q => ∃ (F0 H0 F : Hp) (G : Sls) (s : DS) (d : D) (G' : Sls), Wd dl F H s ∧ Sim X.K X.mg dl F0 H0 F H sg G ∧ Rep X.K X.mg dl F d v ∧ f G d = some G' ∧
  ∀ H' sg', Wd dl F H' s → Sim X.K X.mg dl F0 H0 F H' sg' G' → Q sg' H'
def gDMs (f : Sls → List D → Option Sls) : TGs := fun vs sg H Q => ∃ (F0 H0 F : Hp) (G : Sls) (s : DS) (ds : List D) (G' : Sls), Wd dl F H s ∧ Sim X.K X.mg dl F0 H0 F H sg G ∧ RepL X.K X.mg dl F ds vs ∧ f G ds = some G' ∧
  ∀ H' sg', Wd dl F H' s → Sim X.K X.mg dl F0 H0 F H' sg' G' → Q sg' H'
abbrev DGM (tg : Expr) (f : SG) : Prop := PG X tg (gDM X dl f)
abbrev DGMs (tgs : List Expr) (f : Sls → List D → Option Sls) : Prop := PGs X tgs (gDMs X dl f)
end
/-- item j of the own list of slot i -/
def sgO (i j : Nat) : SG := fun G d => (ownAt G i).bind fun ds => if j < ds.length then some (G.set i (some (.own (ds.set j d)))) else none
section
variable {X : Cx} {dl : Dr X.w} {W : WX} {pos p q2 : Pos} {e : Expr} {es : List Expr} {f : SE}
end
end EK


namespace EK
open PySem PySem.Spec PyProof.Rows L2
section
variable {X : Cx} {dl : Dr X.w} {W : WX} {pos p : Pos} {e : Expr} {es : List Expr}
def trU (r : STs) : STr := fun G => bnd (r G) fun ts => ofO (if ts.length ≤ 1000 then some (.dct (.u ts.length) ts) else none)
end
end EK


namespace EK
open PySem PySem.Spec PyProof.Rows L2
section
variable {X : Cx} {dl : Dr X.w} {W : WX} {pos p : Pos}
def sSeqR (f : SS) (g : SNT) : SNT := fun G => bnd (f G) fun o => match o with
  | .next G' => g G'
  | .ret d => ret (.fz d)
  | _ => fail
end
end EK


namespace EK
open PySem PySem.Spec PyProof.Rows L2
section
variable {X : Cx} {dl : Dr X.w} {W : WX} {pos p apos cpos : Pos} {e a : Expr} {f fa : SE}
def tupR : D → Option D
  | .int n => if -1000000 ≤ n ∧ n < 1000000 then some (.tup (upFrom 0 n.toNat)) else none
  | _ => none
def rValsZ : V → Hp → VK → Prop := fun x H Q => ∃ (d : Addr) (o : Obj) (kvs : List (Key × V)), x = .ref d ∧ H d = some (.frz o (.dK kvs)) ∧ ∀ q, H q = none → Q (.ref q) (upd H q (.lst (kvs.map (·.2))))
def valsDD : D → Option (List D)
  | .dct _ xs => some xs
  | _ => none
def gValsO (f : SE) : SA := fun G => bnd (f G) fun d => ofO (valsDD d)
end
end EK


namespace EK
open PySem PySem.Spec PyProof.Rows L2
section
variable {X : Cx}
variable {dl : Dr X.w} {W : WX}
end
end EK


namespace EK
open PySem PySem.Spec PyProof.Rows L2
def tripN : List NestedKey → List Addr → List Value → List (NestedKey × Addr × Value)
  | k :: ks, b :: bs, u :: us => (k, b, u) :: tripN ks bs us
  | _, _, _ => []
/-- what stands at a key -/
def atN : List D → List D → NestedKey → Option D
  | k :: ks, x :: xs, j => if nkD k = some j then some x else atN ks xs j
  | _, _, _ => none
def hasN (ks : List D) (j : NestedKey) : Bool := ks.any fun k => decide (nkD k = some j)
/-- data that may be a key -/
def keyN (d : D) : Option NestedKey := (nkD d).bind fun j => if isTupK j = true ∧ j.depth ≤ 8 then some j else none
def dgetN : D → D → Option D
  | .dcN ks xs, k => (keyN k).bind fun j => atN ks xs j
  | _, _ => none
def dinNB : D → D → Option Bool
  | k, .dcN ks _ => (keyN k).map fun j => hasN ks j
  | _, _ => none
def dinN (a b : D) : Option D := (dinNB a b).map .bl
def dninN (a b : D) : Option D := (dinNB a b).map fun k => .bl (!k)
def lenKN : List D → Option D
  | [.dcN ks _] => some (.int (ks.length : Int))
  | _ => none
section
variable {X : Cx} {dl : Dr X.w} {W : WX} {pins : List (Addr × Obj)} {sg : L2.St} {F H : Hp} {s : Shared} {st : DS}
end
section
variable {X : Cx} {dl : Dr X.w} {W : WX} {a b e c2 : Expr} {fa fb fe : SE} {p pos : Pos}
end
end EK


namespace EK
open PySem PySem.Spec PyProof.Rows L2
/-- a new key put -/
def PutN (X : Cx) (dl : Dr X.w) (T : Addr) (y z : V) (H : Hp) (Nx : Hp → Prop) : Prop :=
  ∃ (F : Hp) (st : DS) (ks : List D) (k : D) (nks : List NestedKey) (j : NestedKey) (bs : List Addr) (b : Addr) (vs : List V), Wd dl F H st ∧ y = .ref b ∧ Rep X.K X.mg dl F k (.ref b) ∧ keyN k = some j ∧ j ∉ nks ∧ nkDs ks = some nks ∧ RepL X.K X.mg dl F ks (bs.map V.ref) ∧
    H T = some (DkN X.w T nks bs vs) ∧ (bs.length = nks.length ∧ vs.length = nks.length) ∧ nks.Nodup ∧ (∀ k ∈ nks, isTupK k = true ∧ k.depth ≤ 8) ∧ nks.length < sizeLine ∧ Nx (upd H T (DkN X.w T (nks ++ [j]) (bs ++ [b]) (vs ++ [z])))
section
variable {X : Cx} {dl : Dr X.w}
def tDcN (X : Cx) (dl : Dr X.w) (wi : TI) (g : TG) (tt : TT) (tk tv : TE) (vs : List Nat) : TE := fun sg H Q => wi sg H fun J H1 => ∀ T, H1 T = none → ∃ W : Nat → Nat → Hp → Prop, (∃ m, W 0 m (upd H1 T (DkN X.w T [] [] []))) ∧ ∀ i m H, W i m H →
  (J.stop i H ∧ Q (.ref T) H) ∨ (J.go i H ∧ ∃ Nx : Hp → Prop, (∀ H', Nx H' → ∃ m', m' < m ∧ W (i + 1) m' H') ∧ ∀ x H', J.yld i H x H' → g x (wipe sg vs) H' fun sg2 H2 => wipe sg2 vs = wipe sg vs ∧ tt sg2 H2 fun b H3 =>
    if b = true then tk sg2 H3 fun y H4 => tv sg2 H4 fun z H5 => PutN X dl T y z H5 Nx else Nx H3)
end
end EK


namespace EK
open PySem PySem.Spec PyProof.Rows L2
section
variable {X : Cx} {dl : Dr X.w} {J : It} {n : Nat} {Gd : Hp → Prop} {Y : Nat → Hp → V → Hp → Prop}
end
/-- a key that is not there yet -/
def newN (acc : List NestedKey) (y : D) : Option NestedKey := (keyN y).bind fun j => if j ∈ acc then none else some j
section
variable {X : Cx} {dl : Dr X.w} {W : WX} {pos p tpos : Pos}
/-- the pairs, one by one -/
def dcNM (f : SG) (u : ST) (hk hv : SE) (G : Sls) : List NestedKey → List D → M (List (D × D))
  | _, [] => ret []
  | acc, d :: ds => bnd (ofO (f G d)) fun G' => bnd (u G') fun k => if k then bnd (hk G') fun y => bnd (hv G') fun z => bnd (ofO (newN acc y)) fun j => bnd (dcNM f u hk hv G (acc ++ [j]) ds) fun r => ret ((y, z) :: r) else dcNM f u hk hv G acc ds
def gDcNP (vs : List Nat) (it : SA) (f : SG) (u : ST) (hk hv : SE) : Sls → M (List (D × D)) := fun G => bnd (it G) fun ds => noErr (dcNM f u hk hv (wipeG G vs) [] ds)
def dictOfN (kvs : List (D × D)) : Option D := if kvs.length ≤ 1000 then some (.dcN (kvs.map (·.1)) (kvs.map (·.2))) else none
def gDcN (vs : List Nat) (it : SA) (f : SG) (u : ST) (hk hv : SE) : SE := fun G => bnd (gDcNP vs it f u hk hv G) fun kvs => ofO (dictOfN kvs)
/-- what is known of the dict while it is filled -/
structure FillN (X : Cx) (dl : Dr X.w) (a : Addr) (kvs : List (D × D)) (nks : List NestedKey) (F' H' : Hp) (bs : List Addr) (vs : List V) : Prop where
  at_ : H' a = some (DkN X.w a nks bs vs)
  len : bs.length = nks.length ∧ vs.length = nks.length
  nd : nks.Nodup
  ok : ∀ k ∈ nks, isTupK k = true ∧ k.depth ≤ 8
  ks : nkDs (kvs.map (·.1)) = some nks
  rk : RepL X.K X.mg dl F' (kvs.map (·.1)) (bs.map V.ref)
  rv : RepL X.K X.mg dl F' (kvs.map (·.2)) vs
def NewDn (X : Cx) (dl : Dr X.w) (H : Hp) (kvs : List (D × D)) (F' H' : Hp) (a : Addr) : Prop := H a = none ∧ F' a = none ∧ ∃ nks bs vs, FillN X dl a kvs nks F' H' bs vs
def tDn (X : Cx) (dl : Dr X.w) (W : WX) (f : Sls → M (List (D × D))) : TE := fun sg H Q => ∃ F, tGF X dl W F f (fun kvs F' H' => ∀ a, NewDn X dl H kvs F' H' a → Q (.ref a) H') sg H
end
end EK


namespace EK
open PySem PySem.Spec PyProof.Rows L2
section
variable {X : Cx} {dl : Dr X.w} {W : WX} {pos p tpos : Pos}
def isiND (cs : List (Str × Bool)) (ans : String → Option Bool) : D → Option D
  | .dcN _ _ => (ans "dict").map .bl
  | d => isiD cs ans d
def rIsN (X : Cx) (dl : Dr X.w) : List V → Hp → VK → Prop := fun xs H Q => ∃ (F : Hp) (s : DS) (ks ds : List D) (v cv : V) (T : Value) (b : Bool), xs = [v, cv] ∧ ClsV cv T ∧ Wd dl F H s ∧ Rep X.K X.mg dl F (.dcN ks ds) v ∧ PySem.W.kitOne X.K (.type "dict") T = some b ∧ Q (.bl b) H
variable {e c2 : Expr} {fe : SE}
end
end EK


namespace EK
open PySem PySem.Spec PyProof.Rows L2
section
variable {prog : Program} {w : World} {A : Around} {s : Shared}
end
def sort1 : List D → Option D
  | [d] => match itemsTL d with
    | some [x] => if (toP x).isSome = true ∧ isNone (pD x) = false ∧ PySem.W.alike (pD x) (pD x) = true ∧ (pD x).depth ≤ 60 then some (.lst [x]) else none
    | _ => none
  | _ => none
/-- sorted, of one thing too -/
def sortedE (ds : List D) : Option D := match sort1 ds with
  | some r => some r
  | none => sortedD ds
section
variable {X : Cx} {dl : Dr X.w} {W : WX}
end
end EK


namespace EK
open PySem PySem.Spec PyProof.Rows L2
section
variable {prog : Program} {w : World} {A : Around} {E : Value → Shared → Prop} {s : Shared} {zz ti to ja jb la lb : Addr} {k m : Nat} {xs ys : Array Value} {x y a b : Value}
/-- what stands where a zip of a tuple and a list is under way -/
structure ZipTL (h : Heap) (zz ti to ja jb la lb : Addr) (k m : Nat) (xs ys : Array Value) (a b : Value) : Prop where
  z : IsZip h zz ti to .none
  i : IsPair h ti (.ref ja) (.ref jb)
  o : IsPair h to a b
  ia : h.IsTupleIter ja la k
  ib : h.IsListIter jb lb m
  sa : h.IsTuple la xs
  sb : h.IsList lb ys
end
abbrev ztl1 (h : Heap) (la : Addr) : Heap := h.push { cls := .type "tuple_iterator", data := .fields #[.ref la, .int 0 0] }
abbrev ztl2 (h : Heap) (la lb : Addr) : Heap := (ztl1 h la).push { cls := .type "list_iterator", data := .fields #[.ref lb, .int 0 0] }
abbrev ztl3 (h : Heap) (la lb : Addr) : Heap := (ztl2 h la lb).push { cls := .type "tuple", data := .seq #[.ref h.objs.size, .ref (ztl1 h la).objs.size] }
abbrev ztl4 (h : Heap) (la lb : Addr) : Heap := (ztl3 h la lb).push { cls := .type "tuple", data := .seq #[.none, .none] }
abbrev ztl5 (h : Heap) (la lb : Addr) : Heap := (ztl4 h la lb).push { cls := .type "zip", data := .fields #[.none, .bool false, .bool false, .ref (ztl2 h la lb).objs.size, .ref (ztl3 h la lb).objs.size] }
section
variable {prog : Program} {w : World} {A : Around} {E : Value → Shared → Prop} {s : Shared} {la lb : Addr} {xs ys : Array Value}
end
/-- a tuple at a and a list at b, as they stand at each turn -/
def ItzTL (K : PySem.W.Frag) (a b : Addr) : It :=
  ⟨fun i H => ∃ (xs ys : List V) (x y : V), SqT K H a xs ∧ SqL K H b ys ∧ xs[i]? = some x ∧ ys[i]? = some y,
    fun i H v H' => ∃ T x y, v = .ref T ∧ H T = none ∧ H' = upd H T (.tup [x, y]) ∧ (∀ xs, SqT K H a xs → xs[i]? = some x) ∧ ∀ ys, SqL K H b ys → ys[i]? = some y,
    fun i H => ∃ xs ys : List V, SqT K H a xs ∧ SqL K H b ys ∧ (xs.length ≤ i ∨ ys.length ≤ i)⟩
end EK


namespace EK
open PySem PySem.Spec PyProof.Rows L2
def iZipTL (K : PySem.W.Frag) (ta : TA) : TI := fun sg H R => ta sg H fun vs H1 => ∃ a b xs ys, vs = [.ref a, .ref b] ∧ SqT K H1 a xs ∧ SqL K H1 b ys ∧ R (ItzTL K a b) H1
/-- zip of a tuple and a list -/
def zipTL : List D → Option (List D)
  | [.tup xs, .lst ys] => some (zipD xs ys)
  | _ => none
section
variable {X : Cx} {dl : Dr X.w} {W : WX} {p pos tpos : Pos}
end
end EK


namespace EK
open PySem PySem.Spec PySem.Calls PyProof.Rows PyProof.V PySem.W
structure ZlG (xs ys : Array Value) (lo : Addr) (h : Heap) (as : List Addr) : Prop where
  rise : as.Pairwise (· < ·)
  above : ∀ a ∈ as, lo < a
  pairs : ∀ (j : Nat) (a : Addr), as[j]? = some a → ∃ x y, xs[j]? = some x ∧ ys[j]? = some y ∧ IsPair h a x y
theorem ZlG.there {xs ys : Array Value} {lo : Addr} {h : Heap} {as : List Addr} (g : ZlG xs ys lo h as) {a : Addr} (ha : a ∈ as) : a < h.objs.size := by
  obtain ⟨j, hj⟩ := List.mem_iff_getElem?.mp ha
  obtain ⟨_, _, _, _, e⟩ := g.pairs j a hj
  exact Heap.lt_size e
def ZlSt (h : Heap) (z ti to ja jb la lb S : Addr) (xs ys : Array Value) (i : Nat) : Prop :=
  IsPair h ti (.ref ja) (.ref jb) ∧ h.IsListIter ja la i ∧ h.IsListIter jb lb i ∧ h.IsList la xs ∧ h.IsList lb ys ∧
    ((IsZip h z ti to .none ∧ ∃ a b, IsPair h to a b) ∨ ∃ T f oT, IsZipHeld h z ti to T f ∧ h.get? T = some oT ∧ T ≠ z ∧ T ≠ ja ∧ T ≠ jb ∧ T ≠ S)
structure ZlAp (z ti to ja jb la lb S : Addr) : Prop where
  D : ZipApart z ti to ja jb la lb
  zS : z < S
  tiS : ti < S
  toS : to < S
  jaS : ja < S
  jbS : jb < S
  laS : la < S
  lbS : lb < S
theorem ZlSt.keep {h h' : Heap} {z ti to ja jb la lb S : Addr} {xs ys : Array Value} {i : Nat} (P : ZlAp z ti to ja jb la lb S) (st : ZlSt h z ti to ja jb la lb S xs ys i) (hk : ∀ b o, b ≠ S → h.get? b = some o → h'.get? b = some o) : ZlSt h' z ti to ja jb la lb S xs ys i := by
  obtain ⟨hTI, h1, h2, hl1, hl2, hz⟩ := st
  refine ⟨hk _ _ (Nat.ne_of_lt P.tiS) hTI, h1.at fun o e => hk _ o (Nat.ne_of_lt P.jaS) e, h2.at fun o e => hk _ o (Nat.ne_of_lt P.jbS) e, hl1.at fun o e => hk _ o (Nat.ne_of_lt P.laS) e, hl2.at fun o e => hk _ o (Nat.ne_of_lt P.lbS) e, ?_⟩
  rcases hz with ⟨hz, a, b, hTO⟩ | ⟨T, f, oT, hz, hT, r1, r2, r3, r4⟩
  · exact .inl ⟨hk _ _ (Nat.ne_of_lt P.zS) hz, a, b, hk _ _ (Nat.ne_of_lt P.toS) hTO⟩
  · exact .inr ⟨T, f, oT, hk _ _ (Nat.ne_of_lt P.zS) hz, hk _ _ r4 hT, r1, r2, r3, r4⟩
section
variable {prog : Program} {w : World} {A : Around} {E : Value → Shared → Prop} {s : Shared} {z ti to ja jb la lb S : Addr} {xs ys : Array Value}
end
section
variable {prog : Program} {w : World} {A : Around} {E : Value → Shared → Prop} {s : Shared} {R : Result → Shared → Prop} {z ti to ja jb la lb S : Addr} {xs ys : Array Value} {n : Nat}
end
section
variable {prog : Program} {w : World} {A : Around} {E : Value → Shared → Prop} {s : Shared} {z ti to ja jb la lb S : Addr} {xs ys : Array Value} {n : Nat}
end
end EK


namespace EK
open PySem PySem.Spec PyProof.Rows L2
def putV : Hp → List Addr → List (V × V) → Hp
  | H, a :: as, p :: kvs => putV (upd H a (.tup [p.1, p.2])) as kvs
  | H, _, _ => H
section
variable {K : PySem.W.Frag} {mg : Str → Option Value} {wd : World} {dl : Dr wd}
end
section
variable {X : Cx} {dl : Dr X.w} {W : WX} {pos p p2 pos2 : Pos}
def tListZ (K : PySem.W.Frag) (ta : TA) : TE := fun σ H Q => ta σ H fun vs H1 => ∃ a b xs ys, vs = [.ref a, .ref b] ∧ SqL K H1 a xs ∧ SqL K H1 b ys ∧ xs.length = ys.length ∧
  ∀ (q : Addr) (ts : List Addr), H1 q = none → (∀ t ∈ ts, H1 t = none) → q ∉ ts → ts.Nodup → ts.length = xs.length → Q (.ref q) (putV (upd H1 q (.lst (ts.map V.ref))) ts (xs.zip ys))
/-- list(zip(xs, ys)) of two lists of one length -/
def zipLD : List D → Option (List D)
  | [.lst xs, .lst ys] => if xs.length = ys.length then some (zipD xs ys) else none
  | _ => none
def gZipO (r : SA) : SA := gItC zipLD r
end
end EK


namespace EK
open PySem PySem.Spec PyProof.Rows L2
section
variable {prog : Program} {w : World} {K : Type} [DecidableEq K] {knd : KeyKind prog w K} {A : Around} {E : Value → Shared → Prop} {s : Shared}
end
section
variable {X : Cx} {pos : Pos} {dv ke ve : Expr} {td tk tv : TE}
def tDispM (tk tv td : TE) : TE := fun sg H Q => ∀ p, H p = none → tPairs [(tk, tv)] sg (upd H p (.dK [])) fun ps H1 => H1 p = some (.dK []) ∧ ∃ (k : Key) (z : V), ps = [(kV k, z)] ∧
  td sg (upd H1 p (.dK [(k, z)])) fun x H2 => ∃ (a : Addr) (kvs : List (Key × V)), x = .ref a ∧ p ≠ a ∧ Rd H2 a (.dK kvs) ∧ kvs.length ≤ 1000 ∧ H2 p = some (.dK [(k, z)]) ∧ Q (.ref p) (upd H2 p (.dK (mergeK [(k, z)] kvs)))
end
def mKs (ks js : List Key) : List Key := js.foldl putKs ks
def mXs {α : Type} : List Key → List α → List Key → List α → List α
  | ks, xs, j :: js, y :: ys => mXs (putKs ks j) (putXs ks xs j y) js ys
  | _, xs, _, _ => xs
def gDispM (fk fv fd : SE) : SE := fun G => bnd (fk G) fun y => bnd (fv G) fun z => bnd (ofO (keyOf y)) fun j => bnd (fd G) fun d => bnd (ofO (asDct d)) fun r => ret (.dct (mKs [j] r.1) (mXs [j] [z] r.1 r.2))
section
variable {X : Cx} {dl : Dr X.w} {W : WX} {pos : Pos}
end
end EK


namespace EK
open PySem PySem.Spec PyProof.Rows L2
def strD : D → Option Str
  | .str x => some x
  | _ => none
def textsP : D → Option (List Str)
  | .ptp ds => ds.mapM strD
  | _ => none
section
variable {X : Cx}
def tupleP : List D → Option D
  | [.lst ds] => some (.ptp ds)
  | _ => none
variable {dl : Dr X.w} {W : WX} {o e : Expr} {fa fb fe : SE} {apos pos pos1 : Pos} {c n : Str}
def gU (f : SE) : SE := fun G => bnd (f G) fun d => ret (unp d)
def gFldR (c f : Str) (fe : SE) : SE := fun G => bnd (fe G) fun d => ofO (fldR c f d)
def tIdxP (X : Cx) (to te : TE) : TE := fun σ H Q => to σ H fun x H1 => ∃ (p : Addr) (ob : Obj) (ys : List Str), x = .ref p ∧ H1 p = some (.frz ob (.tup (ys.map V.str))) ∧ ob.dict = none ∧
  te σ H1 fun y H2 => ∃ k : Str, y = .str k ∧ k ∈ ys ∧ H2 p = some (.frz ob (.tup (ys.map V.str))) ∧ Q (.int ((ys.idxOf k : Nat) : Int)) H2
def gIdxT (fa fb : SE) : SE := fun G => bnd (fa G) fun x => bnd (ofO (textsP x)) fun ys => bnd (fb G) fun y => ofO ((strD y).bind fun k => if k ∈ ys then some (.int ((ys.idxOf k : Nat) : Int)) else none)
end
end EK


namespace EK
open PySem PySem.Spec PyProof.Rows L2
/-- what a dict holds at a key, or another value -/
def dgetOr : D → D → D → Option D
  | .dct ks xs, k, x => (keyOf k).map fun j => (atK ks xs j).getD x
  | _, _, _ => none
def asDc : D → Option (List Key × List D)
  | .dct ks xs => some (ks, xs)
  | _ => none
def gGet (fd fk fx : SE) : SE := fun G => bnd (fd G) fun d => bnd (ofO (asDc d)) fun r => bnd (fk G) fun k => bnd (fx G) fun x => ofO ((keyOf k).map fun j => (atK r.1 r.2 j).getD x)
def gGetX (i : Nat) (fk fx : SE) : SE := fun G => bnd (ofO (xAt G i)) fun r => bnd (fk G) fun k => bnd (fx G) fun x => ofO ((keyOf k).map fun j => (atK r.1 r.2 j).getD x)
section
variable {X : Cx} {dl : Dr X.w} {W : WX} {o e f : Expr} {fd fk fx : SE} {apos cpos : Pos}
end
end EK


namespace EK
open PySem PySem.Spec PyProof.Rows L2
def strsD : D → Option (List Str)
  | .lst ds => ds.mapM strD
  | _ => none
def gCntS (fa fb : SE) : SE := fun G => bnd (fa G) fun x => bnd (ofO (strsD x)) fun bs => bnd (fb G) fun y => ofO ((strD y).map fun k => .int ((bs.count k : Nat) : Int))
section
variable {X : Cx}
variable {dl : Dr X.w} {W : WX} {o e : Expr} {fa fb : SE} {apos pos : Pos}
end
end EK


namespace EK
open PySem PySem.Spec PyProof.Rows L2
def intsK : List Key → Option (List Int)
  | [] => some []
  | .inl x :: ks => (intsK ks).map (x :: ·)
  | .inr _ :: _ => none
def sortI (xs : List Int) : List Int := xs.mergeSort fun a b => decide (a ≤ b)
def sortedDi : List D → Option D
  | [.dct ks _] => (intsK ks).bind fun xs => if xs.length < 64 then some (.lst ((sortI xs).map D.int)) else none
  | _ => none
section
variable {X : Cx} {dl : Dr X.w}
end
end EK


namespace EK
open PySem PySem.Spec PyProof.Rows L2
def kvP : List Key → List D → Option (List (Key × PyData))
  | [], [] => some []
  | k :: ks, x :: xs => (toP x).bind fun p => if PySem.SeqAt.shaped p = true then (kvP ks xs).map fun r => (k, p) :: r else none
  | _, _ => none
def atP : List (Key × PyData) → Key → Option PyData
  | [], _ => none
  | (k, p) :: r, j => if k = j then some p else atP r j
def hitsP (b : List (Key × PyData)) : List (Key × PyData) → Bool
  | [] => true
  | (k, p) :: r => match atP b k with
    | none => false
    | some q => PyData.eqv p q && hitsP b r
def eqKv (a b : List (Key × PyData)) : Bool := (a.length == b.length) && hitsP b a
def eqDctB : D → D → Option Bool
  | .dct ks xs, .dct js ys => (kvP ks xs).bind fun a => (kvP js ys).map fun b => eqKv a b
  | _, _ => none
def eqY (a b : D) : Option D := (eqDctB a b).map .bl
def neY (a b : D) : Option D := (eqDctB a b).map fun t => .bl (!t)
section
variable {X : Cx} {dl : Dr X.w}
end
end EK


namespace EK
open PySem PySem.Spec PyProof.Rows L2
section
open PySem.W PySem.SeqAt
/-- alike as far as all ahead is equal -/
def like2 : List PyData → List PyData → Bool
  | x :: xs, y :: ys => alike x y && (!PyData.eqv x y || like2 xs ys)
  | _, _ => true
def tups : PyData → List PyData
  | .tuple xs => xs
  | _ => []
variable {prog : Program} {w : World} {A : Around} {E : Value → Shared → Prop} {s : Shared}
/-- all are tuples with an item at least, alike as far as all ahead is equal -/
structure Like2 (ds : List PyData) : Prop where
  pl : ∀ d ∈ ds, d.plain = true
  tp : ∀ d ∈ ds, ∃ x r, d = .tuple (x :: r)
  al : ∀ d ∈ ds, ∀ d' ∈ ds, like2 (tups d) (tups d') = true
end
/-- tuples that can be put in order -/
def canSort2 (ds : List D) : Bool := ds.all (fun d => (toP d).isSome && ((pD d).plain && (tupNE (pD d) && decide ((pD d).depth ≤ 60)))) && ds.all fun a => ds.all fun b => like2 (tups (pD a)) (tups (pD b))
def sortedD2 : List D → Option D
  | [d] => (itemsTL d).bind fun ds => if canSort2 ds then some (.lst (sortL ds)) else none
  | _ => none
section
variable {X : Cx} {dl : Dr X.w} {W : WX}
end
end EK


namespace EK
open PySem PySem.Spec PyProof.Rows L2
def ninZ (a b : D) : Option D := match ninD a b with
  | some d => some d
  | none => ninX a b
section
variable {X : Cx} {dl : Dr X.w}
end
end EK


namespace EK
open PySem PySem.Spec PyProof.Rows L2
section
variable {X : Cx} {dl : Dr X.w} {W : WX} {pos p pos' : Pos} {F0 H0 F H F1 H1 : Hp} {sg : L2.St} {G : Sls}
/-- new trees stay what they are -/
theorem NewTs.step {ts : List T} {vs : List V} {F2 H2 : Hp} {s : DS} (w : Wd dl F H s) {as : List Addr} (h1 : TRL X.K X.mg dl F1 H1 ts vs as) (h3 : ∀ a ∈ as, H a = none ∧ F1 a = none) (st : Step dl F1 H1 F2 H2) : TRL X.K X.mg dl F2 H2 ts vs as ∧ ∀ a ∈ as, F2 a = none := by
  have so := TRL.some ts vs as h1
  refine ⟨TRL.mono st.fs ts vs as (fun a ha => ?_) h1, fun a ha => ?_⟩
  · obtain ⟨o, ho⟩ := so a ha
    rw [ho]
    exact st.hs a o (w.na (h3 a ha).1) ho
  · obtain ⟨o, ho⟩ := so a ha
    exact none_step st (h3 a ha).2 ho
def kvsV (kvs : List (Key × T)) (vs : List V) : List (V × V) := ((kvs.map (·.1)).zip vs).map fun kv => (kV kv.1, kv.2)
/-- return {.., k: x, ..}, x the def's own tree -/
def sRetD (l1 : List (SE × STr)) (ke : SE) (i : Nat) (l2 : List (SE × STr)) : SNT := fun G => bnd (trPairs l1 G) fun a => bnd (ke G) fun y => bnd (ofO (keyOf y)) fun j => bnd (ofO (treeAt G i)) fun t => bnd (trPairs l2 G) fun c =>
  ofO (if (a ++ (j, t) :: c).length ≤ 15 ∧ nodupK ((a ++ (j, t) :: c).map (·.1)) = true then some (.dct (.k ((a ++ (j, t) :: c).map (·.1))) ((a ++ (j, t) :: c).map (·.2))) else none)
end
end EK


namespace EK
open PySem PySem.Spec PyProof.Rows L2
def gIdxS (fa fb : SE) : SE := fun G => bnd (fa G) fun x => bnd (ofO (strsD x)) fun bs => bnd (fb G) fun y => ofO ((strD y).bind fun k => if k ∈ bs then some (.int ((bs.idxOf k : Nat) : Int)) else none)
section
variable {X : Cx}
variable {dl : Dr X.w} {W : WX} {o e : Expr} {fa fb : SE} {apos pos : Pos}
end
end EK


namespace EK
open PySem PySem.Spec PyProof.Rows L2
mutual
def noLst : D → Bool
  | .non => true
  | .bl _ => true
  | .int _ => true
  | .str _ => true
  | .tup xs => noLsts xs
  | .dct _ xs => noLsts xs
  | _ => false
def noLsts : List D → Bool
  | [] => true
  | d :: ds => noLst d && noLsts ds
end
section
variable {K : PySem.W.Frag} {mg : Str → Option Value} {wd : World} {dl : Dr wd} {F F' : Hp}
end
section
variable {X : Cx} {dl : Dr X.w} {W : WX} {F0 H0 F H F1 H1 : Hp} {e : Expr}
/-- e, which may look at the own list of slot i as a whole; its value holds no list -/
def lendL (i : Nat) (f : SE) : SE := fun G => match ownAt G i with
  | some ds => bnd (noErr (f (G.set i (some (.fz (.lst ds)))))) fun d => ofO (if noLst d = true then some d else none)
  | none => fail
/-- the test u, which may look at the own list of slot i as a whole -/
def lendLT (i : Nat) (u : ST) : ST := fun G => match ownAt G i with
  | some ds => noErr (u (G.set i (some (.fz (.lst ds)))))
  | none => fail
end
end EK


namespace EK
open PySem PySem.Spec PyProof.Rows L2
def allFz : List T → Bool
  | [] => true
  | .fz _ :: ts => allFz ts
  | _ => false
section
variable {X : Cx} {dl : Dr X.w} {W : WX} {e : Expr}
/-- e, which may look at the own list (a tree) of slot i as a whole; its value holds no list -/
def lendTL (i : Nat) (f : SE) : SE := fun G => match treeAt G i with
  | some (.lst ts) => if (allFz ts && (T.lst ts).flat) = true then bnd (noErr (f (G.set i (some (.fz (T.lst ts).data))))) fun d => ofO (if noLst d = true then some d else none) else fail
  | _ => fail
end
end EK


namespace EK
open PySem PySem.Spec PyProof.Rows L2
section
variable {prog : Program} {w : World} {A : Around} {E : Value → Shared → Prop} {s : Shared} {zz ti to ja jb la lb : Addr} {k m : Nat} {xs ys : Array Value} {x y a b : Value}
/-- what stands where a zip of a tuple and a list is under way -/
structure ZipLT (h : Heap) (zz ti to ja jb la lb : Addr) (k m : Nat) (xs ys : Array Value) (a b : Value) : Prop where
  z : IsZip h zz ti to .none
  i : IsPair h ti (.ref ja) (.ref jb)
  o : IsPair h to a b
  ia : h.IsListIter ja la k
  ib : h.IsTupleIter jb lb m
  sa : h.IsList la xs
  sb : h.IsTuple lb ys
end
abbrev zlt1 (h : Heap) (la : Addr) : Heap := h.push { cls := .type "list_iterator", data := .fields #[.ref la, .int 0 0] }
abbrev zlt2 (h : Heap) (la lb : Addr) : Heap := (zlt1 h la).push { cls := .type "tuple_iterator", data := .fields #[.ref lb, .int 0 0] }
abbrev zlt3 (h : Heap) (la lb : Addr) : Heap := (zlt2 h la lb).push { cls := .type "tuple", data := .seq #[.ref h.objs.size, .ref (zlt1 h la).objs.size] }
abbrev zlt4 (h : Heap) (la lb : Addr) : Heap := (zlt3 h la lb).push { cls := .type "tuple", data := .seq #[.none, .none] }
abbrev zlt5 (h : Heap) (la lb : Addr) : Heap := (zlt4 h la lb).push { cls := .type "zip", data := .fields #[.none, .bool false, .bool false, .ref (zlt2 h la lb).objs.size, .ref (zlt3 h la lb).objs.size] }
section
variable {prog : Program} {w : World} {A : Around} {E : Value → Shared → Prop} {s : Shared} {la lb : Addr} {xs ys : Array Value}
end
/-- a tuple at a and a list at b, as they stand at each turn -/
def ItzLT (K : PySem.W.Frag) (a b : Addr) : It :=
  ⟨fun i H => ∃ (xs ys : List V) (x y : V), SqL K H a xs ∧ SqT K H b ys ∧ xs[i]? = some x ∧ ys[i]? = some y,
    fun i H v H' => ∃ T x y, v = .ref T ∧ H T = none ∧ H' = upd H T (.tup [x, y]) ∧ (∀ xs, SqL K H a xs → xs[i]? = some x) ∧ ∀ ys, SqT K H b ys → ys[i]? = some y,
    fun i H => ∃ xs ys : List V, SqL K H a xs ∧ SqT K H b ys ∧ (xs.length ≤ i ∨ ys.length ≤ i)⟩
def iZipLT (K : PySem.W.Frag) (ta : TA) : TI := fun sg H R => ta sg H fun vs H1 => ∃ a b xs ys, vs = [.ref a, .ref b] ∧ SqL K H1 a xs ∧ SqT K H1 b ys ∧ R (ItzLT K a b) H1
/-- zip of a tuple and a list -/
def zipLT : List D → Option (List D)
  | [.lst xs, .tup ys] => some (zipD xs ys)
  | _ => none
section
variable {X : Cx} {dl : Dr X.w} {W : WX} {p pos tpos : Pos}
end
end EK


namespace EK
open PySem PySem.HandSPX Builtin Builtin.ObjectAttr
section
variable {M : Model} {prog : Program} {w : World} {A : Around} {E : Value → Shared → Prop} {R : Result → Shared → Prop} {hp : Heap} {gs : Array GenState} {dr : Drawn} {tk : Nat} {os : OsState}
variable {nm qn : Str} {C N : Addr} {bs bm bmB : List Value} {hdct : Bool} {sn : List Str} {sub : List Value} {ab : Bool} {col : Option Bool} {dd : Option Addr} {k0 k1 k2 k3 k5 : Option Value} {B newId initId : String}
theorem xk_check (F : ExcBaseFacts B newId initId bmB) (hT : ∀ X : String, bm.contains (.type X) = bmB.contains (.type X)) {kw : List (Str × Value)} {Q : Unit → Shared → Prop}
    (cC : hp.get? C = some (excClassObj nm qn C N bs bm hdct sn sub ab col dd k0 k1 k2 k3 k5 newId)) (q : Q () ⟨hp, gs, dr, tk, os⟩) : wpAny M A (checkBuiltinCall newId ⟨[.ref C], kw⟩) Q E ⟨hp, gs, dr, tk, os⟩ := by
  have e1 : (Value.ref C :: bm).contains (.type B) = true := by
    rw [List.contains_cons, hT, F.hasB]
    exact Bool.or_true _
  have e2 := F.noStar
  unfold checkBuiltinCall
  simp only [F.newKind, F.newSplit, F.newRow]
  repeat (first
    | refine wpAny_loadPart_at cC ?_
    | (refine wpAny_isSubtype_exc cC ?_
       rw [e1])
    | refine wpAny_staticBase_exc cC ?_
    | refine wpAny_madeBy_exc cC ?_
    | simp only [bne_self_eq_false, Bool.false_eq_true, if_false]
    | wp_step)
  exact q
theorem xk_new (F : ExcBaseFacts B newId initId bmB) (hT : ∀ X : String, bm.contains (.type X) = bmB.contains (.type X)) {kw : List (Str × Value)}
    (cC : hp.get? C = some (excClassObj nm qn C N bs bm hdct sn sub ab col dd k0 k1 k2 k3 k5 newId))
    (q : R (.ok (.ret (.ref (hp.objs.size + 1)))) ⟨(hp.push (W.kdv_tup [])).push (excO C hp.objs.size), gs, dr, tk, os⟩) :
    codeAny (model prog w) A (.builtin newId ⟨[.ref C], kw⟩) R ⟨hp, gs, dr, tk, os⟩ := by
  have e0 := F.ends
  have e1 : (Value.ref C :: bm).contains (.type B) = true := by
    rw [List.contains_cons, hT, F.hasB]
    exact Bool.or_true _
  have e2 : (Value.ref C :: bm).contains (.type "AttributeError") = false := by
    rw [List.contains_cons, hT, F.noAttr]
    rfl
  have e3 : (Value.ref C :: bm).contains (.type "NameError") = false := by
    rw [List.contains_cons, hT, F.noName]
    rfl
  have hsz : ([] : List Value).length ≤ sizeLine := Nat.zero_le _
  refine codeAny_builtinAt F.entry ?_
  unfold Builtin.«BaseException.__new__»
  refine wpAt_bind ?_
  show wpAt _ _ _ (stack >>= _) _ _ _
  refine wpAt_bind (wpAt_stack fun p below => wpAt_of_wpAny ?_)
  wp_walk
  refine wpAt_of_wpAny ?_
  rw [F.owner]
  repeat (first
    | with_reducible refine wpAny_madeHere_exc F.canon cC ?_
    | with_reducible refine wpAny_loadPart_at cC ?_
    | (with_reducible refine wpAny_isSubtype_exc cC ?_
       first | rw [e1] | rw [e2] | rw [e3])
    | wp_step)
  show R _ _
  rw [Heap.size_push]
  exact q
theorem xk_type (F : ExcBaseFacts B newId initId bmB) (hT : ∀ X : String, bm.contains (.type X) = bmB.contains (.type X)) {kw : List (Str × Value)} {fI : Addr} {Q : Fin → Shared → Prop}
    (cC : hp.get? C = some (excClassObj nm qn C N bs bm hdct sn sub ab col dd k0 k1 k2 k3 k5 newId))
    (ini : W.Looks (model prog w) hp (typeLookup (.ref C) "__init__") (some (.ref fI))) (bnd : ∀ self, W.Looks (model prog w) hp (bindSpecial (.ref fI) self) (.ref fI, [self]))
    (q : codeAny (model prog w) A (.call (.ref fI) ⟨[.ref (hp.objs.size + 1)], kw⟩)
      (fun r s' => match r with | .ok (.ret v) => v = .none ∧ Q (.done (.ret (.ref (hp.objs.size + 1)))) s' | .ok _ => False | .error e => E e s')
      ⟨(hp.push (W.kdv_tup [])).push (excO C hp.objs.size), gs, dr, tk, os⟩) :
    wpAny (model prog w) A (Builtin.«type.__call__» ⟨[.ref C], kw⟩) Q E ⟨hp, gs, dr, tk, os⟩ := by
  repeat (first
    | with_reducible refine wpAny_loadPart_at cC ?_
    | with_reducible refine wpAny_madeBy_exc cC ?_
    | wp_step)
  refine codeAny_call_builtin_code (Code.quiet_builtin _ F.quiet) (xk_check F hT cC ?_)
  refine xk_new F hT cC ?_
  show wpAny _ _ _ _ _ _
  have up : ∀ b o, hp.get? b = some o → ((hp.push (W.kdv_tup [])).push (excO C hp.objs.size)).get? b = some o := fun b o e =>
    Heap.get?_push_of_some _ (Heap.get?_push_of_some _ e)
  have cC2 := up _ _ cC
  have ge : ((hp.push (W.kdv_tup [])).push (excO C hp.objs.size)).get? (hp.objs.size + 1) = some (excO C hp.objs.size) := by heap_get
  have hm : (Value.ref C :: bm).contains (.ref C) = true := by simp
  have l1 := ini.keeps up
  have l2 := (bnd (.ref (hp.objs.size + 1))).keeps up
  unfold isInstance
  repeat (first
    | with_reducible refine wpAny_loadPart_at ge ?_
    | (with_reducible refine wpAny_isSubtype_exc cC2 ?_
       rw [hm])
    | wp_step)
  show wpAny _ _ (typeLookup (.ref C) _) _ _ _
  refine l1.at ?_
  refine wpAny_holding (wpAny_bind (l2.at ?_))
  refine wpAny_bind (wpAny_call (codeAny_mono q fun r s' z => ?_))
  rcases r with e | (v | _ | _ | _) <;> first | exact z | exact z.elim | skip
  obtain ⟨rfl, z⟩ := z
  first
    | exact wpAny_pure (wpAny_pure z)
    | (wp_walk
       exact z)
theorem xk_typecheck {kw : List (Str × Value)} {Q : Unit → Shared → Prop} (cC : hp.get? C = some (excClassObj nm qn C N bs bm hdct sn sub ab col dd k0 k1 k2 k3 k5 newId))
    (q : Q () ⟨hp, gs, dr, tk, os⟩) : wpAny M A (checkBuiltinCall "type.__call__" ⟨[.ref C], kw⟩) Q E ⟨hp, gs, dr, tk, os⟩ := by
  have e3 := tc_sub
  have ty : (⟨hp, gs, dr, tk, os⟩ : Shared).TypeIs (.ref C) "type" := ⟨_, cC, rfl⟩
  unfold checkBuiltinCall
  simp only [tc_kind, tc_split]
  repeat (any_goals (first
    | assumption
    | with_reducible refine wpAny_loadPart_at cC ?_
    | with_reducible refine wpAny_onRaise ?_
    | with_reducible refine wpAny_map ?_
    | wp_step))
theorem xk_call (F : ExcBaseFacts B newId initId bmB) (hT : ∀ X : String, bm.contains (.type X) = bmB.contains (.type X)) {kw : List (Str × Value)} {fI : Addr}
    (cC : hp.get? C = some (excClassObj nm qn C N bs bm hdct sn sub ab col dd k0 k1 k2 k3 k5 newId))
    (ini : W.Looks (model prog w) hp (typeLookup (.ref C) "__init__") (some (.ref fI))) (bnd : ∀ self, W.Looks (model prog w) hp (bindSpecial (.ref fI) self) (.ref fI, [self]))
    (q : codeAny (model prog w) (A.under (.builtin "type.__call__" ⟨[.ref C], kw⟩)) (.call (.ref fI) ⟨[.ref (hp.objs.size + 1)], kw⟩) (W.InitBack (hp.objs.size + 1) R)
      ⟨(hp.push (W.kdv_tup [])).push (excO C hp.objs.size), gs, dr, tk, os⟩) : codeAny (model prog w) A (.call (.ref C) ⟨[], kw⟩) R ⟨hp, gs, dr, tk, os⟩ := by
  have e1 := tc_lookup
  have e2 := tc_bind (.ref C)
  have ty : (⟨hp, gs, dr, tk, os⟩ : Shared).TypeIs (.ref C) "type" := ⟨_, cC, rfl⟩
  refine codeAny_of_tree ?_
  show wpAny _ _ (callAny (.ref C) _) _ _ _
  repeat (any_goals (first
    | assumption
    | with_reducible refine wpAny_loadPart_at cC ?_
    | wp_step))
  refine ⟨rfl, ?_⟩
  refine codeAny_call_builtin_at (Code.quiet_builtin _ (by decide +kernel)) entry_typeCall (xk_typecheck cC (xk_type F hT cC ini bnd ?_))
  refine codeAny_mono q fun r s' z => ?_
  rcases r with e | (v | _ | _ | _) <;> exact z
end
end EK


namespace EK
open PySem PySem.Spec PyProof.Rows L2
section
variable {X : Cx} {e : Expr} {p pos : Pos} {x fld : Str} {C fI : Addr}
theorem pe_mkX {t : L2.St → Hp → XK → Prop} (h : PMk X e t) : PE X e (fun sg H Q => t sg H fun cls d H1 => ∀ a, H1 a = none → Q (.ref a) (upd H1 a (ExK a cls d))) := ⟨fun pins s sg H Q I q => by
  refine wpAny_mono (h pins s sg H _ I q) (fun u s' hm => ?_) (fun _ _ z => z)
  obtain ⟨a, oe, vs, sI, H', cls, d, rfl, J, k, na, ha, z, hd, h1, nH, os, bar, r, q1⟩ := hm
  have T := J.laidN (h' := s'.heap) (t' := s'.toks) k na nH (exK_ok ha z hd)
  exact ⟨.ref a, _, ⟨T.ok, os.trans T.os, bar, T.base, T.loc, T.cell, T.free, T.freeC, T.pin, T.hok, T.len⟩, rfl, q1 a nH⟩⟩
theorem exM_ok {P : Program} {w : World} {H : Hp} {h : Heap} {a t : Addr} {cls : Value} {oe : Obj} {vs : Array Value} (e : h.get? a = some oe) (z : Zc cls none oe) (hd : oe.data = .fields vs) (h0 : vs[0]? = some (.ref t)) : ObjOk P w H h a (ExM a cls t) :=
  ⟨⟨oe, vs, e, z, hd, h0⟩, ⟨oe, e⟩, fun _ _ ⟨o, v, q, r⟩ k => ⟨o, v, k o q, r⟩⟩
theorem exM_at {P : Program} {w : World} {H : Hp} {h : Heap} {a t : Addr} {cls : Value} (hok : HOk P w H h) (he : H a = some (ExM a cls t)) : ∃ (oe : Obj) (vs : Array Value), h.get? a = some oe ∧ Zc cls none oe ∧ oe.data = .fields vs ∧ vs[0]? = some (.ref t) := by
  have x : ObjOk P w H h a (.ext fun h => ∃ (oe : Obj) (vs : Array Value), h.get? a = some oe ∧ Zc cls none oe ∧ oe.data = .fields vs ∧ vs[0]? = some (.ref t)) := hok a _ he
  exact x.1
theorem ExM_nt {a t : Addr} {cls : Value} : NotTbl (ExM a cls t) := by intro _ z; unfold ExM at z; cases z
/-- X(e), X an exception class without an __init__ of its own -/
theorem pe_mkM {te : TE} {bmB : List Value} {B newId initId : String} (F : ExcBaseFacts B newId initId bmB) (q : PySem.W.excIn X.K C bmB newId = true) (gC : X.mg x = some (.ref C)) (kC : PySem.W.keepIn X.K (.ref C) = true) (hg : Gl X x)
    (he : PE X e te) (hs : starEach [e] X.env = (false, eval e X.env) :: starEach [] X.env := by rfl) (hdb : (x == ("__debug__" : Str)) = false := by decide) :
    PE X (.Call (.Name x p) [e] [] pos) (fun sg H Q => te sg H fun v H1 => ∀ t a, H1 t = none → (upd H1 t (.tup [v])) a = none → Q (.ref a) (upd (upd H1 t (.tup [v])) a (ExM a (.ref C) t))) := ⟨fun pins s sg H Q I h => by
  refine wpAny_Call_Name_kw (ld_glob I hg gC ?_ hdb)
  refine PySem.W.callWith_K (h₀ := X.base) I.ok.mod.kin kC ?_ hs (by rfl)
  rw [hs]
  refine Calls.spliced_cons (thn (he.run pins s sg H _ I h) fun u s1 ⟨v, H1, I1, r1, q1⟩ => ?_)
  refine Calls.spliced_nil ⟨I1.kIn, ?_⟩
  show wpAny _ _ (call (.ref C) [u]) _ _ _
  obtain ⟨bm, N, nm, qn, bs, hdct, sn, sub, ab, col, dd, k0, k1, k2, k3, k5, mN, hC, hN, hni, T⟩ := exc_obj I1.kIn q
  refine wpAny_call_exc_subT F T hC hN hni (fun h' b hm => ?_) (by show 1 ≤ sizeLine; rw [sizeLine_eq]; omega)
  obtain ⟨t, ge, nt, gt⟩ := hm.there
  have net : t ≠ b := fun z => by
    rw [z, ge] at gt
    have := congrArg Obj.data (Option.some.inj gt)
    cases this
  obtain ⟨G, g1, g2⟩ := restrict h' fun c => decide (c ≠ b)
  have gk : ∀ c, c ≠ b → G.get? c = h'.get? c := fun c hc => g1 c (decide_eq_true hc)
  have gb : G.get? b = none := g2 b (by simp)
  have kG : ∀ c o, s1.heap.get? c = some o → G.get? c = some o := fun c o z => by
    rw [gk c (fun y => by rw [y, hm.new] at z; cases z)]
    exact hm.keeps c o z
  have n1 : H1 t = none := I1.hok.gone nt
  have n2 : H1 b = none := I1.hok.gone hm.new
  have J1 := I1.laidN (a := t) (o := .tup [v]) (h' := G) (t' := s1.toks) kG nt n1 ⟨by show 1 ≤ sizeLine; rw [sizeLine_eq]; omega, [u], .cons r1 .nil, ⟨_, (gk t net).trans gt, rfl, 0, rfl⟩⟩
  have J2 := J1.laidN (a := b) (o := ExM b (.ref C) t) (h' := h') (t' := s1.toks) (fun c o z => (gk c (fun y => by
    have z : G.get? c = some o := z
    rw [y, gb] at z; cases z)).symm.trans z) gb (by rw [upd_ne (Ne.symm net)]; exact n2) (exM_ok ge ⟨rfl, rfl⟩ rfl rfl)
  exact ⟨.ref b, _, J2, rfl, q1 t b n1 (by rw [upd_ne (Ne.symm net)]; exact n2)⟩⟩
end
section
variable {X : Cx} {dl : Dr X.w} {W : WX} {e c2 : Expr} {f fe : SE} {p pos : Pos} {x fld : Str} {kws : List Keyword}
def gMkX (c fld : Str) (f : SE) : SE := fun G => bnd (f G) fun d => ret (.exc c [fld] [d])
theorem de_mkX {k : Nat} (T : Exc1 X.prog X.K X.mg x fld) (hr : Room (k + 1) X.A) (he : DE X dl W e f) (hg : Gl X x := by rfl) (hdb : (x == ("__debug__" : Str)) = false := by decide)
    (hs : starEach [e] X.env = (false, eval e X.env) :: starEach [] X.env := by rfl) : DE X dl W (.Call (.Name x p) [e] [] pos) (gMkX x fld f) := by
  obtain ⟨C, fI, h1, h2⟩ := T.ex
  refine PE.of (pe_mkX (pmk_sup h2 hr hg h1 (pa_cons he pa_nil hs) hdb hs)) fun sg H Q q => ?_
  obtain ⟨F, F0, H0, G, s, w, S, g⟩ := q
  refine ⟨F, F0, H0, G, s, w, S, g.bnd.imp fun d s1 F1 H1 st1 w1 g1 v rv => ⟨v, rfl, fun dx hdx a ha => ?_⟩⟩
  have st2 := Step.new (o := .xd [(fld, v)]) w1 hdx
  have w2 := w1.new (o := .xd [(fld, v)]) hdx
  have st3 := Step.new (o := ExK a (.ref C) (some dx)) w2 ha
  refine g1 _ _ (st2.trans st3) (w2.new ha ExK_nt) (.ref a) ⟨a, C, [v], rfl, h1, rfl, .inr ⟨dx, by simp, upd_same, st3.fs _ _ upd_same⟩, ?_⟩
  exact ⟨v, [], rfl, Rep.mono (st2.trans st3).fs d v rv, rfl⟩
def exmD (c : Str) : D → Option D
  | .str m => some (.exm c m)
  | _ => none
def gMkM (c : Str) (f : SE) : SE := fun G => bnd (f G) fun d => ofO (exmD c d)
theorem de_mkM (T : Exc0 X.K X.mg x) (he : DE X dl W e f) (hg : Gl X x := by rfl) (hdb : (x == ("__debug__" : Str)) = false := by decide)
    (hs : starEach [e] X.env = (false, eval e X.env) :: starEach [] X.env := by rfl) : DE X dl W (.Call (.Name x p) [e] [] pos) (gMkM x f) := by
  obtain ⟨C, h1, h2, h3, h4, h5⟩ := T.ex
  refine PE.of (pe_mkM F.excBase_ValueError h2 h1 h3 hg he hs hdb) fun sg H Q q => ?_
  obtain ⟨F, F0, H0, G, s, w, S, g⟩ := q
  refine ⟨F, F0, H0, G, s, w, S, g.bnd.imp fun d s1 F1 H1 st1 w1 g1 v rv t a ht ha => ?_⟩
  obtain ⟨y, ey, g2⟩ := g1.ofO
  cases d with
  | str m =>
    cases ey
    cases (show v = .str m from rv)
    have st2 := Step.new (o := .tup [.str m]) w1 ht
    have w2 := w1.new (o := .tup [.str m]) ht
    have st3 := Step.new (o := ExM a (.ref C) t) w2 ha
    exact g2 _ _ (st2.trans st3) (w2.new ha ExM_nt) (.ref a) ⟨a, C, t, rfl, h1, upd_same, st3.fs _ _ upd_same⟩
  | _ => cases ey
theorem exm_inst {pins : List (Addr × Obj)} {sg : L2.St} {F H : Hp} {s : Shared} {ds : DS} {c m : Str} {v : V} (I : Inv X pins sg H s) (w : Wd dl F H ds) (r : Rep X.K X.mg dl F (.exm c m) v) :
    ∃ (a C t : Addr) (oe : Obj) (vs : Array Value), v = .ref a ∧ X.mg c = some (.ref C) ∧ PySem.W.InstAt s.heap a oe C none ∧ oe.data = .fields vs ∧ vs[0]? = some (.ref t) ∧ H t = some (.tup [.str m]) := by
  obtain ⟨a, C, t, rfl, h2, h3, h4⟩ := r
  obtain ⟨oe, vv, g1, g2, g3, g4⟩ := exM_at I.hok (w.sub _ _ h3)
  exact ⟨a, C, t, oe, vv, rfl, h2, ⟨g1, g2.1, by unfold PySem.W.notCls; rw [g3] <;> rfl, by rw [g2.2]; trivial⟩, g3, g4, w.sub _ _ h4⟩
def isiYD (cx cs : List (Str × Bool)) (ans : String → Option Bool) : D → Option D
  | .exm c _ => (cx.lookup c).map .bl
  | d => isiXD cx cs ans d
def rIsM (X : Cx) (dl : Dr X.w) : List V → Hp → VK → Prop := fun xs H Q => ∃ (F : Hp) (s : DS) (c m : Str) (v cv : V) (T : Value) (b : Bool) (C : Addr), xs = [v, cv] ∧ ClsV cv T ∧ Wd dl F H s ∧ Rep X.K X.mg dl F (.exm c m) v ∧ X.mg c = some (.ref C) ∧ XclF X.K C ∧ PySem.W.kitOne X.K (.ref C) T = some b ∧ Q (.bl b) H
theorem call_isM : CallR X (.builtin "isinstance") (rIsM X dl) := by
  intro pins s sg H xs us Q I r h
  obtain ⟨F, ds, c, m, v, cv, T, b, C, rfl, k, w, rp, hm, xc, e, q⟩ := h
  obtain ⟨u1, u2, rfl, r1, r2⟩ := vals2 r
  have e2 := k.eq r2
  subst e2
  obtain ⟨a, C', t, oe, vs, rfl, m2, J, _⟩ := exm_inst I w rp
  rw [hm] at m2
  cases m2
  cases (show u1 = Value.ref a from r1)
  exact PySem.W.kia_one (PySem.W.kitx_exc xc.cl xc.ga xc.gg xc.su xc.ha xc.hn xc.tk xc.mo) I.kIn J e (fun z => nomatch z) fun tk => ⟨.bl b, H, I.tok tk, rfl, q⟩
theorem de_isiY {T : Value} {cv : V} {cx cs : List (Str × Bool)} {ans : String → Option Bool} (hg : Gl X "isinstance") (hm : X.mg "isinstance" = none) (hT : PE X c2 (tC cv)) (hcv : ClsV cv T) (hcx : ∀ c b, cx.lookup c = some b → IsiX X.K X.mg c T b) (hcs : ∀ c b, cs.lookup c = some b → IsiF X.K X.mg c T b) (hans : ∀ t b, ans t = some b → PySem.W.kitOne X.K (.type t) T = some b) (he : DE X dl W e fe)
    (hs1 : starEach [e, c2] X.env = (false, eval e X.env) :: starEach [c2] X.env := by rfl) (hs2 : starEach [c2] X.env = (false, eval c2 X.env) :: starEach [] X.env := by rfl) (hpl : (backTo pos (starEach [c2] X.env)).any (·.1) = false := by rfl) :
    DE X dl W (.Call (.Name "isinstance" p) [e, c2] [] pos) (g1 (isiYD cx cs ans) fe) := by
  refine PE.of (pe_callB (callR_or call_isi (callR_or (call_isX (dl := dl)) (call_isM (dl := dl)))) hg hm (by decide +kernel) (pa_cons he (pa_cons hT pa_nil hs2) hs1) (by decide) (by decide) hs1 hpl) fun sg H Q q => ?_
  obtain ⟨F, q⟩ := q
  refine ⟨F, q.bnd.imp fun d F1 H1 ⟨st1, q1⟩ v rv => ?_⟩
  obtain ⟨y, s, e1, w, q2⟩ := q1.op
  cases hd : tyN d with
  | some t =>
    have e2 : ((ans t).map D.bl) = some y := by
      cases d <;> first | (simpa [isiYD, isiXD, isiD, hd] using e1) | (simp [tyN] at hd)
    cases ha : ans t with
    | none => rw [ha] at e2; cases e2
    | some b =>
      rw [ha] at e2
      cases e2
      exact .inl ⟨v, cv, .type t, T, b, rfl, hcv, tyx_of w rv hd, hans t b ha, q2 F1 H1 Step.refl w _ rfl⟩
  | none =>
    cases d with
    | obj c ns xs =>
      have e2 : ((cs.lookup c).map D.bl) = some y := e1
      cases hc : cs.lookup c with
      | none => rw [hc] at e2; cases e2
      | some b =>
        rw [hc] at e2
        cases e2
        obtain ⟨C, t1, t2⟩ := tyx_obj w (hcs c b hc) (by simp [isC]) rv
        exact .inl ⟨v, cv, .ref C, T, b, rfl, hcv, t1, t2, q2 F1 H1 Step.refl w _ rfl⟩
    | exc c ns xs =>
      have e2 : ((cx.lookup c).map D.bl) = some y := e1
      cases hc : cx.lookup c with
      | none => rw [hc] at e2; cases e2
      | some b =>
        rw [hc] at e2
        cases e2
        obtain ⟨C, m1, m2, m3⟩ := (hcx c b hc).ex
        exact .inr (.inl ⟨F1, s, c, ns, xs, v, cv, T, b, C, rfl, hcv, w, rv, m1, m2, m3, q2 F1 H1 Step.refl w _ rfl⟩)
    | exm c m =>
      have e2 : ((cx.lookup c).map D.bl) = some y := e1
      cases hc : cx.lookup c with
      | none => rw [hc] at e2; cases e2
      | some b =>
        rw [hc] at e2
        cases e2
        obtain ⟨C, m1, m2, m3⟩ := (hcx c b hc).ex
        exact .inr (.inr ⟨F1, s, c, m, v, cv, T, b, C, rfl, hcv, w, rv, m1, m2, m3, q2 F1 H1 Step.refl w _ rfl⟩)
    | dcT _ _ => cases e1
    | dcN _ _ => cases e1
    | ptp _ => cases e1
    | _ => cases hd
structure StrM (K : PySem.W.Frag) (mg : Str → Option Value) (c : Str) : Prop where
  ex : ∃ C, mg c = some (.ref C) ∧ PySem.W.findIn K (.ref C) "__str__" = some (some (.builtin "BaseException.__str__")) ∧ PySem.W.subIn K (.ref C) (.type "BaseException") = some true
theorem strM_ok {K : PySem.W.Frag} {mg : Str → Option Value} {c : Str} (gl : mg c = some (.ref (He.ga K c))) (h : (Fx.xst c).ok K = true) : StrM K mg c := by
  obtain ⟨h1, h2⟩ := He.ba h
  exact ⟨_, gl, He.eqO_ok h1, of_decide_eq_true h2⟩
def strMD (cl : List Str) : List D → Option D
  | [.exm c m] => if cl.contains c then some (.str m) else none
  | _ => none
theorem cd_strM {cl : List Str} (hu : X.A.units + 64 < cLine) (hT : ∀ c ∈ cl, StrM X.K X.mg c) : CallR X (.type "str") (rCD X dl (strMD cl)) := by
  intro pins s sg H xs us Q I rv q
  obtain ⟨F, st, ds, r, wd, ra, e, k⟩ := q
  unfold strMD at e
  split at e
  · rename_i c m
    split at e
    · rename_i hc
      cases e
      obtain ⟨v, rfl, r1⟩ := repL1 ra
      obtain ⟨a, C, t, oe, vs, rfl, m2, J, jd, j0, ht⟩ := exm_inst I wd r1
      obtain ⟨C', m1, f1, f2⟩ := (hT c (by simpa using hc)).ex
      rw [m1] at m2
      cases m2
      obtain ⟨u, rfl, ru⟩ := rv.one
      cases (show u = Value.ref a from ru)
      obtain ⟨its, ri, it, _⟩ := I.tuple (xs := [V.str m]) (SqT.of ht)
      cases ri with
      | cons r1 r2 =>
        cases r2
        obtain ⟨tk, rfl⟩ := r1
        obtain ⟨o, i1, i2, n, i3⟩ := it
        exact PySem.P.str_of_C_one (K := X.K) (C := C) (t0 := t) (by omega) ⟨I.kIn, oe, vs, J.at_, J.cls, jd, j0⟩ ⟨o, n, i1, i2, i3⟩ f1 f2 ⟨.str m, H, I, ⟨tk, rfl⟩, k F H _ Step.refl wd rfl⟩
    · cases e
  · cases e
end
end EK


namespace EK
open PySem PySem.Spec PyProof.Rows L2
structure Exc1K (prog : Program) (K : PySem.W.Frag) (mg : Str → Option Value) (c fld : Str) : Prop where
  ex : ∃ C fI, mg c = some (.ref C) ∧ SupC prog K C fI fld ∧ ∃ (oc : Value) (od : Option Addr) (fd : FuncData) (osl : Array (Option Value)), K.lookup fI = some ⟨oc, od, .func fd, osl⟩ ∧ ∀ (s : Shared) (a b : Value), BindsTo s fd ⟨[a], [(fld, b)]⟩ [("self", a), (fld, b)]
/-- its parameters take a keyword -/
def ExcTK (d : ExcD) : Prop := ∀ (body : List Stmt) (kV doc pm ct cdv : Value) (an : Option Addr) (cc : Addr) (s : Shared) (a b : Value), BindsTo s (PySem.W.ksFn "__init__" d.qual d.params body d.scope .none kV doc pm an cdv ct cc) ⟨[a], [(d.fld, b)]⟩ [("self", a), (d.fld, b)]
theorem ExcD.kwB {K : PySem.W.Frag} {d : ExcD} (t : ExcTK d) (h : d.ok K = true) (e : fnV K (initA K d.cls) = d.val) :
    ∃ (oc : Value) (od : Option Addr) (fd : FuncData) (osl : Array (Option Value)), K.lookup (initA K d.cls) = some ⟨oc, od, .func fd, osl⟩ ∧ ∀ (s : Shared) (a b : Value), BindsTo s fd ⟨[a], [(d.fld, b)]⟩ [("self", a), (d.fld, b)] := by
  obtain ⟨h1, h⟩ := He.ba h
  obtain ⟨h2, h⟩ := He.ba h
  obtain ⟨h3, h⟩ := He.ba h
  obtain ⟨h4, h⟩ := He.ba h
  obtain ⟨h5, h⟩ := He.ba h
  obtain ⟨h6, h⟩ := He.ba h
  obtain ⟨h7, h⟩ := He.ba h
  obtain ⟨h8, h⟩ := He.ba h
  obtain ⟨h9, h⟩ := He.ba h
  unfold fnV at e
  cases hl : K.lookup (initA K d.cls) with
  | none => rw [hl] at h; cases h
  | some ob =>
    rcases ob with ⟨u1, u2, dat, u3⟩
    rw [hl] at h e
    cases dat
    case func fd =>
      rcases fd with ⟨m1, m2, m3, m4, m5, m6, m7, m8, m9, m10, m11, m12, m13, m14, m15⟩
      unfold ExcD.val at e
      simp only [Option.some.injEq, Prod.mk.injEq] at e
      rcases e with ⟨g1, g2, g3, g4, g5, g6, g7, g8⟩
      subst g1 g2 g3 g4 g5 g6 g8
      match m13, m7, g7, h with
      | .ref cda, [(nm, cc)], g7, h =>
        have en : nm = "__class__" := by simpa using g7
        subst en
        obtain ⟨y1, y2⟩ := He.ba h
        obtain ⟨y5, y0⟩ := He.ba y1
        have e8 : m8 = .none := by
          cases m8 <;> first | rfl | cases y0
        subst e8
        exact ⟨u1, u2, _, u3, rfl, fun s a b => t d.body m9 m10 m11 m14 (.ref cda) m12 cc s a b⟩
    all_goals cases h
section
variable {X : Cx} {e : Expr} {te : TE} {p pos : Pos} {x fld : Str} {C fI : Addr} {kws : List Keyword}
theorem pmk_supK {k : Nat} {ta : TA} {oc : Value} {od : Option Addr} {fd : FuncData} {osl : Array (Option Value)} (T : SupC X.prog X.K C fI fld) (lk : X.K.lookup fI = some ⟨oc, od, .func fd, osl⟩) (hkb : ∀ (s : Shared) (a b : Value), BindsTo s fd ⟨[a], [(fld, b)]⟩ [("self", a), (fld, b)])
    (hr : Room (k + 1) X.A) (hg : Gl X x) (hm : X.mg x = some (.ref C)) (ha : PK X kws ta) (hdb : (x == ("__debug__" : Str)) = false := by decide)
    (hall : (backToKw pos (keywordEach kws X.env)).all (·.1.isSome) = true := by rfl) (hks : (backToKw pos (keywordEach kws X.env)).filterMap (·.1) = [fld] := by rfl)
    (hpl : ((backTo pos (starEach [] X.env)).any (·.1) || (backToKw pos (keywordEach kws X.env)).any (·.1.isNone)) = false := by rfl) :
    PMk X (.Call (.Name x p) [] kws pos) (fun sg H Q => ta sg H fun vs H1 => ∃ v, vs = [v] ∧ ∀ d, H1 d = none → Q (.ref C) (some d) (upd H1 d (.xd [(fld, v)]))) := by
  intro pins s sg H Q I h
  obtain ⟨nm, q, N, bs, bm, sn, sub, ab, col, dd, k0, k1, k2, k3, k5, hC, hbm⟩ := T.ox.cls
  refine wpAny_Call_Name_kw (ld_glob I hg hm ?_ hdb)
  refine PySem.W.callWith_KW0 (first := []) (h₀ := X.base) I.ok.mod.kin T.ox.kC hall (thn (ha.run pos pins s sg H _ I h) fun us s1 ⟨vs, H1, I1, r1, v, ev, q1⟩ => ⟨I1.kIn, ?_⟩) hpl
  rw [hks]
  subst ev
  obtain ⟨u, rfl, ru⟩ := vals1 r1
  show wpAny _ _ (call (.ref C) [] [(fld, u)]) _ _ _
  obtain ⟨hp, g, dr, tk, os⟩ := s1
  have kk : ∀ b o, hp.get? b = some o → ((hp.push (PySem.W.kdv_tup [])).push (PySem.HandSPX.excO C hp.objs.size)).get? b = some o := fun b o e => Heap.get?_push_of_some _ (Heap.get?_push_of_some _ e)
  have hget : ((hp.push (PySem.W.kdv_tup [])).push (PySem.HandSPX.excO C hp.objs.size)).get? (hp.objs.size + 1) = some (PySem.HandSPX.excO C hp.objs.size) := by heap_get
  have hsz : hp.objs.size ≤ hp.objs.size + 1 := Nat.le_succ _
  have hKe : X.K.lookup (hp.objs.size + 1) = none := by
    cases z : X.K.lookup (hp.objs.size + 1) with
    | none => rfl
    | some o =>
      have := Heap.lt_size (I1.kIn _ _ z)
      exact absurd this (by show ¬ (hp.objs.size + 1 < hp.objs.size); omega)
  obtain ⟨mb, hb1, hb2⟩ := I1.mod.blt
  refine wpAny_call (xk_call F.excBase_ValueError (fun Y => PySem.HandSPX.refsVE_contains Y bm hbm) (I1.kIn _ _ hC) (PySem.W.looks_findIn I1.kIn T.iC) (fun self => PySem.W.bind_fn I1.kIn self T.tI)
    (sup_initA (u := u) (mg := X.mg) (mb := mb) T (fun fd' oc' od' osl' lk' _ => ?_) (I1.kIn.keeps kk) ((I1.mod.glob.keeps I1.bk).keeps kk) ((hb1.keeps I1.bk).keeps kk) hb2 (I1.nolimit.keeps kk) (hr.make C [] [(fld, u)]).depth hKe hget fun h2 tk2 dx t1 k2' dn dne hx hn => ⟨rfl, ?_⟩))
  · rw [lk] at lk'
    cases lk'
    exact hkb _ _ _
  obtain ⟨G, g1, g2⟩ := restrict h2 fun b => decide (b ≠ hp.objs.size + 1)
  have gk : ∀ b, b ≠ hp.objs.size + 1 → G.get? b = h2.get? b := fun b hb => g1 b (decide_eq_true hb)
  have ge : G.get? (hp.objs.size + 1) = none := g2 _ (by simp)
  have dn' : hp.objs.size ≤ dx := Nat.le_trans (Nat.le_trans (Nat.le_succ _) (Nat.le_succ _)) (by simpa using dn)
  have kG : ∀ b o, hp.get? b = some o → G.get? b = some o := fun b o z => by
    have hb : b ≠ hp.objs.size + 1 := fun y => by
      have y2 : b < hp.objs.size := Heap.lt_size z
      rw [y] at y2
      exact absurd y2 (by show ¬ (hp.objs.size + 1 < hp.objs.size); omega)
    rw [gk b hb]
    exact k2' b o hb (kk b o z)
  have new : ObjOk X.prog X.w (upd H1 dx (.xd [(fld, v)])) G dx (.xd [(fld, v)]) := ⟨_, hn.at fun o y => (gk dx dne).trans y, relO_put (fs := []) ru fun g => True.intro⟩
  have J := I1.laid (t' := tk2) (a := dx) (o := .xd [(fld, v)]) (h' := G) kG dn' new
  have nd1 : H1 dx = none := I1.hok.fresh dn'
  refine ⟨hp.objs.size + 1, _, _, ⟨G, g, dr, tk2, os⟩, _, .ref C, some dx, rfl, J, fun b o z => ?_, ge, hx, ⟨rfl, rfl⟩, rfl, rfl, ?_, rfl, I1.bare, raises_own T.ox.exC T.ox.tyC, q1 dx nd1⟩
  · by_cases hb : b = hp.objs.size + 1
    · rw [hb, ge] at z; cases z
    · exact (gk b hb).symm.trans z
  · rw [upd_ne (Ne.symm dne)]
    exact I1.hok.fresh hsz
end
section
variable {X : Cx} {dl : Dr X.w} {W : WX} {e : Expr} {rk : SA} {p pos : Pos} {x fld : Str} {kws : List Keyword}
def gMkXK (c fld : Str) (rk : SA) : SE := fun G => bnd (rk G) fun ds => ofO (match ds with | [d] => some (.exc c [fld] [d]) | _ => none)
theorem de_mkXK {k : Nat} (T : Exc1K X.prog X.K X.mg x fld) (hr : Room (k + 1) X.A) (he : DK X dl W kws rk) (hg : Gl X x := by rfl) (hdb : (x == ("__debug__" : Str)) = false := by decide)
    (hall : (backToKw pos (keywordEach kws X.env)).all (·.1.isSome) = true := by rfl) (hks : (backToKw pos (keywordEach kws X.env)).filterMap (·.1) = [fld] := by rfl)
    (hpl : ((backTo pos (starEach [] X.env)).any (·.1) || (backToKw pos (keywordEach kws X.env)).any (·.1.isNone)) = false := by rfl) : DE X dl W (.Call (.Name x p) [] kws pos) (gMkXK x fld rk) := by
  obtain ⟨C, fI, h1, h2, oc, od, fd, osl, h3, h4⟩ := T.ex
  refine PE.of (pe_mkX (pmk_supK h2 h3 h4 hr hg h1 he hdb hall hks hpl)) fun sg H Q q => ?_
  obtain ⟨F, F0, H0, G, s, w, S, g⟩ := q
  refine ⟨F, F0, H0, G, s, w, S, g.bnd.imp fun ds s1 F1 H1 st1 w1 g1 vs rvs => ?_⟩
  obtain ⟨y, ey, g2⟩ := g1.ofO
  match ds, ey, rvs with
  | [d], ey, rvs =>
    cases ey
    obtain ⟨v, rfl, rv⟩ := repL1 rvs
    refine ⟨v, rfl, fun dx hdx a ha => ?_⟩
    have st2 := Step.new (o := .xd [(fld, v)]) w1 hdx
    have w2 := w1.new (o := .xd [(fld, v)]) hdx
    have st3 := Step.new (o := ExK a (.ref C) (some dx)) w2 ha
    refine g2 _ _ (st2.trans st3) (w2.new ha ExK_nt) (.ref a) ⟨a, C, [v], rfl, h1, rfl, .inr ⟨dx, by simp, upd_same, st3.fs _ _ upd_same⟩, ?_⟩
    exact ⟨v, [], rfl, Rep.mono (st2.trans st3).fs d v rv, rfl⟩
end
theorem SaysW.exc1K {prog : Program} {fa : List He.Fa} {fn : List He.DefD} {fx : List Fx} {gt : List GetD} {tf : List He.Defn} {xd : List ExcD} {h : Heap} {K : PySem.W.Frag} {mg : Str → Option Value} (c : SaysW fa fn fx gt tf xd h K) (i : Nat) {d : ExcD} (gl : mg d.cls = some (.ref (He.ga K d.cls))) (t : ExcT prog d) (tk : ExcTK d) (hi : xd[i]? = some d := by rfl) : Exc1K prog K mg d.cls d.fld := by
  have e2 : (xd.map fun d => fnV K (initA K d.cls))[i]? = (xd.map ExcD.val)[i]? := by rw [c.v]
  rw [List.getElem?_map, List.getElem?_map, hi] at e2
  have ok := List.all_eq_true.mp c.x d (List.mem_of_getElem? hi)
  exact ⟨_, _, gl, ExcD.supC t ok (Option.some.inj e2), ExcD.kwB tk ok (Option.some.inj e2)⟩
theorem no_stM {K : PySem.W.Frag} {mg : Str → Option Value} : ∀ c ∈ ([] : List Str), StrM K mg c := fun _ h => (nomatch h)
theorem one_stM {K : PySem.W.Frag} {mg : Str → Option Value} {x : Str} {l : List Str} (h0 : StrM K mg x) (h1 : ∀ c ∈ l, StrM K mg c) : ∀ c ∈ x :: l, StrM K mg c := fun c h => by
  rcases List.mem_cons.mp h with rfl | h
  · exact h0
  · exact h1 c h
end EK


namespace EK
open PySem PySem.Spec PyProof.Rows L2
def itemP : D → Option PyData
  | .dct ks xs => dctP ks xs
  | d => datP d
def reprLX : List D → Option D
  | [.lst ds] => ((ds.mapM itemP).map PyData.list).bind showX
  | ds => reprD ds
section
variable {X : Cx} {dl : Dr X.w} {pins : List (Addr × Obj)} {sg : L2.St} {F H : Hp} {s : Shared}
theorem item_reads (hsd : (Fx.sysd).ok X.K = true) (I : L2.Inv X pins sg H s) (sub : Same F H) {d : D} {v : V} {u : Value} {p : PyData} (r : Rep X.K X.mg dl F d v) (e : itemP d = some p) (ru : RelV v u) : ∃ as, Reads s.heap u p as ∧ sysModules ∉ as := by
  have noL : ∀ as, LsA s.heap as → sysModules ∉ as := fun as qb z => by
    obtain ⟨om, hm, hcl⟩ : ∃ om, s.heap.get? sysModules = some om ∧ om.cls = .type "dict" := by
      have q : (match X.K.lookup sysModules with | some o => decide (o.cls = .type "dict") | none => false) = true := hsd
      split at q
      · rename_i o ho
        exact ⟨o, I.kIn _ _ ho, of_decide_eq_true q⟩
      · cases q
    obtain ⟨ob, hb, hc⟩ := qb _ z
    rw [hm] at hb
    cases hb
    rw [hcl] at hc
    exact absurd hc (by decide)
  have plain : datP d = some p → ∃ as, Reads s.heap u p as ∧ sysModules ∉ as := fun e => by
    obtain ⟨as, q1, q2⟩ := dat_reads I sub r e ru
    exact ⟨as, q1, noL as q2⟩
  unfold itemP at e
  split at e
  · rename_i ks xs
    unfold dctP at e
    cases em : xs.mapM flatP with
    | none => rw [em] at e; cases e
    | some ps =>
      rw [em] at e
      cases e
      obtain ⟨a, o, vs, rfl, h1, h2, h3, h4⟩ := r
      cases ru
      obtain ⟨g1, g2, g3, us', g4, o', es, epo, g5, g6, g7, g8, g9, g10⟩ := I.hok a _ (sub _ _ h1)
      obtain ⟨q1, q2⟩ := dict_reads (h := s.heap) ks xs vs us' es.toList ps h2 h4 em g4 g9
      refine ⟨a :: [] ++ [], .dict g5 g6.1 g7 q1 q2, fun z => ?_⟩
      have z : sysModules = a := by simpa using z
      rw [← z] at g3
      exact absurd g3 (by decide)
  · exact plain e
theorem items_reads (hsd : (Fx.sysd).ok X.K = true) (I : L2.Inv X pins sg H s) (sub : Same F H) : ∀ {ds : List D} {vs : List V} {us : List Value} {ps : List PyData}, RepL X.K X.mg dl F ds vs → ds.mapM itemP = some ps → Vals vs us → ∃ as, ReadsAll s.heap us ps as ∧ sysModules ∉ as
  | [], vs, us, ps, r, e, q => by
    cases (show vs = [] from r)
    cases q
    cases e
    exact ⟨[], .nil, fun z => nomatch z⟩
  | d :: ds, vs, us, ps, r, e, q => by
    obtain ⟨v, vs', rfl, r1, r2⟩ := r
    cases q with
    | cons q1 q2 =>
      rw [List.mapM_cons] at e
      cases e1 : itemP d with
      | none => rw [e1] at e; cases e
      | some p =>
        rw [e1] at e
        cases e2 : ds.mapM itemP with
        | none => rw [e2] at e; cases e
        | some qs =>
          rw [e2] at e
          cases e
          obtain ⟨as, a1, a2⟩ := item_reads hsd I sub r1 e1 q1
          obtain ⟨bs, b1, b2⟩ := items_reads hsd I sub r2 e2 q2
          exact ⟨as ++ bs, .cons a1 b1, fun z => (List.mem_append.mp z).elim a2 b2⟩
end
section
variable {X : Cx} {dl : Dr X.w} {W : WX}
theorem cd_reprLX (hsd : (Fx.sysd).ok X.K = true) (hg : X.A.guards = some []) (hu : X.A.units + 64 < cLine) : CallR X (.builtin "repr") (rCD X dl reprLX) := by
  intro pins s sg H xs us Q I r h
  obtain ⟨F, st, ds, d, wd, rp, e, k⟩ := h
  have old : reprD ds = some d → wpAny (model X.prog X.w) X.A (call (.builtin "repr") us) (EP X pins sg Q) X.xe s := fun e => cd_repr (dl := dl) hg hu pins s sg H xs us Q I r ⟨F, st, ds, d, wd, rp, e, k⟩
  unfold reprLX at e
  split at e
  · rename_i es
    cases ep : es.mapM itemP with
    | none => rw [ep] at e; cases e
    | some ps =>
      rw [ep] at e
      have e : showX (.list ps) = some d := e
      unfold showX at e
      split at e
      · rename_i hc
        obtain ⟨c1, c2, c3⟩ := hc
        cases e
        obtain ⟨v, vs', rfl, r1, r2⟩ := rp
        cases (show vs' = [] from r2)
        obtain ⟨u, rfl, ru⟩ := vals1 r
        obtain ⟨a, vs, rfl, h1, h2, h3⟩ := r1
        cases ru
        obtain ⟨z, its', n, r', e'⟩ := I.hok a _ (wd.sub _ _ h1)
        obtain ⟨as, ra, na⟩ := items_reads hsd I wd.sub h3 ep r'
        have nm : ∀ om, s.heap.get? sysModules = some om → om.cls = .type "dict" → sysModules ≠ a := fun om hm hcl z => by
          rw [z, e'] at hm
          cases hm
          exact absurd (show Value.type "list" = Value.type "dict" from hcl) (by decide)
        obtain ⟨om, hm, hcl⟩ : ∃ om, s.heap.get? sysModules = some om ∧ om.cls = .type "dict" := by
          have q : (match X.K.lookup sysModules with | some o => decide (o.cls = .type "dict") | none => false) = true := hsd
          split at q
          · rename_i o ho
            exact ⟨o, I.kIn _ _ ho, of_decide_eq_true q⟩
          · cases q
        have rd : Reads s.heap (.ref a) (.list ps) (a :: as) := .list e' rfl rfl (by simpa using ra)
        refine repr_of_reads' rd c1 (fun _ z => ?_) hg (by have c3 : (PyData.list ps).depth ≤ 60 := c3; omega) (fun _ _ e => e) (fun h' t tk hk => ⟨.str _, H, I.kept hk, ⟨t, rfl⟩, k F H _ Step.refl wd rfl⟩) c2
        rcases List.mem_cons.mp z with z | z
        · exact nm om hm hcl z
        · exact na z
      · cases e
  · exact old e
end
section
variable {X : Cx} {dl : Dr X.w} {W : WX} {pos p : Pos} {x : Str} {k n : Nat} {m : List D → M D}
/-- a call without arguments -/
theorem de_call0 (h : DFn X.prog X.w X.K X.mg X.base x k n m) (hr : Room k X.A) (tk : Takes X W) (hg : Gl X x := by rfl) (hdb : (x == ("__debug__" : Str)) = false := by decide) : DE X dl W (.Call (.Name x p) [] [] pos) (gCall n m sa0) := by
  obtain ⟨f, fd, ps, h1, h2, h3, h4, h5⟩ := h.ex
  have R : PE X (.Call (.Name x p) [] [] pos) (fun sg H Q => spD X.K X.mg X.w n m [] H Q (fun cls d H' => W cls d sg H')) := ⟨fun pins s sg H Q I q => by
    refine wpAny_Call_Name_kw (ld_glob I hg h1 ?_ hdb)
    exact PySem.W.callWith_K0 I.kIn h2 (run_fnS (us := []) h5 hr h4 (passAt tk sg) I .nil q)⟩
  refine PE.of R fun sg H Q q => ?_
  obtain ⟨F, F0, H0, G, s, w, S, g⟩ := q
  have g1 := g.bnd.ret w
  by_cases hl : ([] : List D).length = n
  · rw [if_pos hl] at g1
    exact ⟨hl, dl, F, [], s, w, rfl, g1⟩
  · rw [if_neg hl] at g1
    exact g1.elim
end
end EK


namespace K01
open PySem PySem.Spec PyProof.Rows L2 EK
theorem xt_BadFamily : ExcT P xd_BadFamily := ⟨by kernel_rfl, beq_self_eq_true _, ⟨_, _, _, _, _, _, _, _, _, _, _, _, rfl, fun _ _ _ _ => ⟨⟨_, rfl⟩, rfl, rfl⟩⟩, fun _ _ _ _ _ _ _ _ _ _ _ => .of_eq (by kernel_rfl), ⟨_, rfl, rfl⟩, ⟨by decide +kernel, rfl, rfl, rfl, rfl, rfl, rfl, rfl, by decide +kernel, by decide +kernel⟩⟩
theorem xt_BadCount : ExcT P xd_BadCount := ⟨by kernel_rfl, beq_self_eq_true _, ⟨_, _, _, _, _, _, _, _, _, _, _, _, rfl, fun _ _ _ _ => ⟨⟨_, rfl⟩, rfl, rfl⟩⟩, fun _ _ _ _ _ _ _ _ _ _ _ => .of_eq (by kernel_rfl), ⟨_, rfl, rfl⟩, ⟨by decide +kernel, rfl, rfl, rfl, rfl, rfl, rfl, rfl, by decide +kernel, by decide +kernel⟩⟩
theorem xt_BadQuota : ExcT P xd_BadQuota := ⟨by kernel_rfl, beq_self_eq_true _, ⟨_, _, _, _, _, _, _, _, _, _, _, _, rfl, fun _ _ _ _ => ⟨⟨_, rfl⟩, rfl, rfl⟩⟩, fun _ _ _ _ _ _ _ _ _ _ _ => .of_eq (by kernel_rfl), ⟨_, rfl, rfl⟩, ⟨by decide +kernel, rfl, rfl, rfl, rfl, rfl, rfl, rfl, by decide +kernel, by decide +kernel⟩⟩
theorem xt_BadHand : ExcT P xd_BadHand := ⟨by kernel_rfl, beq_self_eq_true _, ⟨_, _, _, _, _, _, _, _, _, _, _, _, rfl, fun _ _ _ _ => ⟨⟨_, rfl⟩, rfl, rfl⟩⟩, fun _ _ _ _ _ _ _ _ _ _ _ => .of_eq (by kernel_rfl), ⟨_, rfl, rfl⟩, ⟨by decide +kernel, rfl, rfl, rfl, rfl, rfl, rfl, rfl, by decide +kernel, by decide +kernel⟩⟩
theorem xt_BadBook : ExcT P xd_BadBook := ⟨by kernel_rfl, beq_self_eq_true _, ⟨_, _, _, _, _, _, _, _, _, _, _, _, rfl, fun _ _ _ _ => ⟨⟨_, rfl⟩, rfl, rfl⟩⟩, fun _ _ _ _ _ _ _ _ _ _ _ => .of_eq (by kernel_rfl), ⟨_, rfl, rfl⟩, ⟨by decide +kernel, rfl, rfl, rfl, rfl, rfl, rfl, rfl, by decide +kernel, by decide +kernel⟩⟩
theorem xt_BadMachine : ExcT P xd_BadMachine := ⟨by kernel_rfl, beq_self_eq_true _, ⟨_, _, _, _, _, _, _, _, _, _, _, _, rfl, fun _ _ _ _ => ⟨⟨_, rfl⟩, rfl, rfl⟩⟩, fun _ _ _ _ _ _ _ _ _ _ _ => .of_eq (by kernel_rfl), ⟨_, rfl, rfl⟩, ⟨by decide +kernel, rfl, rfl, rfl, rfl, rfl, rfl, rfl, by decide +kernel, by decide +kernel⟩⟩
theorem xt_BadLeft : ExcT P xd_BadLeft := ⟨by kernel_rfl, beq_self_eq_true _, ⟨_, _, _, _, _, _, _, _, _, _, _, _, rfl, fun _ _ _ _ => ⟨⟨_, rfl⟩, rfl, rfl⟩⟩, fun _ _ _ _ _ _ _ _ _ _ _ => .of_eq (by kernel_rfl), ⟨_, rfl, rfl⟩, ⟨by decide +kernel, rfl, rfl, rfl, rfl, rfl, rfl, rfl, by decide +kernel, by decide +kernel⟩⟩
theorem xt_BadDeed : ExcT P xd_BadDeed := ⟨by kernel_rfl, beq_self_eq_true _, ⟨_, _, _, _, _, _, _, _, _, _, _, _, rfl, fun _ _ _ _ => ⟨⟨_, rfl⟩, rfl, rfl⟩⟩, fun _ _ _ _ _ _ _ _ _ _ _ => .of_eq (by kernel_rfl), ⟨_, rfl, rfl⟩, ⟨by decide +kernel, rfl, rfl, rfl, rfl, rfl, rfl, rfl, by decide +kernel, by decide +kernel⟩⟩
theorem xt_BadFalls : ExcT P xd_BadFalls := ⟨by kernel_rfl, beq_self_eq_true _, ⟨_, _, _, _, _, _, _, _, _, _, _, _, rfl, fun _ _ _ _ => ⟨⟨_, rfl⟩, rfl, rfl⟩⟩, fun _ _ _ _ _ _ _ _ _ _ _ => .of_eq (by kernel_rfl), ⟨_, rfl, rfl⟩, ⟨by decide +kernel, rfl, rfl, rfl, rfl, rfl, rfl, rfl, by decide +kernel, by decide +kernel⟩⟩
theorem xt_BadStages : ExcT P xd_BadStages := ⟨by kernel_rfl, beq_self_eq_true _, ⟨_, _, _, _, _, _, _, _, _, _, _, _, rfl, fun _ _ _ _ => ⟨⟨_, rfl⟩, rfl, rfl⟩⟩, fun _ _ _ _ _ _ _ _ _ _ _ => .of_eq (by kernel_rfl), ⟨_, rfl, rfl⟩, ⟨by decide +kernel, rfl, rfl, rfl, rfl, rfl, rfl, rfl, by decide +kernel, by decide +kernel⟩⟩
theorem xt_BadIndex : ExcT P xd_BadIndex := ⟨by kernel_rfl, beq_self_eq_true _, ⟨_, _, _, _, _, _, _, _, _, _, _, _, rfl, fun _ _ _ _ => ⟨⟨_, rfl⟩, rfl, rfl⟩⟩, fun _ _ _ _ _ _ _ _ _ _ _ => .of_eq (by kernel_rfl), ⟨_, rfl, rfl⟩, ⟨by decide +kernel, rfl, rfl, rfl, rfl, rfl, rfl, rfl, by decide +kernel, by decide +kernel⟩⟩
theorem xt_BadPlace : ExcT P xd_BadPlace := ⟨by kernel_rfl, beq_self_eq_true _, ⟨_, _, _, _, _, _, _, _, _, _, _, _, rfl, fun _ _ _ _ => ⟨⟨_, rfl⟩, rfl, rfl⟩⟩, fun _ _ _ _ _ _ _ _ _ _ _ => .of_eq (by kernel_rfl), ⟨_, rfl, rfl⟩, ⟨by decide +kernel, rfl, rfl, rfl, rfl, rfl, rfl, rfl, by decide +kernel, by decide +kernel⟩⟩
theorem xt_NoTalk : ExcT P xd_NoTalk := ⟨by kernel_rfl, beq_self_eq_true _, ⟨_, _, _, _, _, _, _, _, _, _, _, _, rfl, fun _ _ _ _ => ⟨⟨_, rfl⟩, rfl, rfl⟩⟩, fun _ _ _ _ _ _ _ _ _ _ _ => .of_eq (by kernel_rfl), ⟨_, rfl, rfl⟩, ⟨by decide +kernel, rfl, rfl, rfl, rfl, rfl, rfl, rfl, by decide +kernel, by decide +kernel⟩⟩
theorem xt_CutOff : ExcT P xd_CutOff := ⟨by kernel_rfl, beq_self_eq_true _, ⟨_, _, _, _, _, _, _, _, _, _, _, _, rfl, fun _ _ _ _ => ⟨⟨_, rfl⟩, rfl, rfl⟩⟩, fun _ _ _ _ _ _ _ _ _ _ _ => .of_eq (by kernel_rfl), ⟨_, rfl, rfl⟩, ⟨by decide +kernel, rfl, rfl, rfl, rfl, rfl, rfl, rfl, by decide +kernel, by decide +kernel⟩⟩
theorem xt_BadJournal : ExcT P xd_BadJournal := ⟨by kernel_rfl, beq_self_eq_true _, ⟨_, _, _, _, _, _, _, _, _, _, _, _, rfl, fun _ _ _ _ => ⟨⟨_, rfl⟩, rfl, rfl⟩⟩, fun _ _ _ _ _ _ _ _ _ _ _ => .of_eq (by kernel_rfl), ⟨_, rfl, rfl⟩, ⟨by decide +kernel, rfl, rfl, rfl, rfl, rfl, rfl, rfl, by decide +kernel, by decide +kernel⟩⟩
theorem xt_BadText : ExcT P xd_BadText := ⟨by kernel_rfl, beq_self_eq_true _, ⟨_, _, _, _, _, _, _, _, _, _, _, _, rfl, fun _ _ _ _ => ⟨⟨_, rfl⟩, rfl, rfl⟩⟩, fun _ _ _ _ _ _ _ _ _ _ _ => .of_eq (by kernel_rfl), ⟨_, rfl, rfl⟩, ⟨by decide +kernel, rfl, rfl, rfl, rfl, rfl, rfl, rfl, by decide +kernel, by decide +kernel⟩⟩
end K01


namespace EK
open PySem PySem.Spec PyProof.Rows L2

def lcB (f : SG) (u : ST) (h : SE) (G : Sls) (d : D) : M (Option D) := bnd (ofO (f G d)) fun G' => bnd (u G') fun k => if k then bnd (h G') fun y => ret (some y) else ret none
def optC : Option D → List D → List D
  | some y, r => y :: r
  | none, r => r
def LIM : Int := 1099511627776
structure OkS (s : DS) : Prop where
  w : ∀ x ∈ s.wide, 0 ≤ x
  c : ∀ x ∈ s.cells, 0 ≤ x ∧ x < 2147483647
  r : 0 ≤ s.rest
  t : 0 ≤ s.turn
def Tr {α : Type} (n : Nat) (m : M α) (P : α → Prop) : Prop := ∀ s, OkS s → s.turn + n ≤ LIM → ∃ a s', m s = some (.ok a, s') ∧ OkS s' ∧ s'.turn ≤ s.turn + n ∧ P a
theorem Tr.ret {α : Type} {a : α} {P : α → Prop} (h : P a) : Tr 0 (EK.ret a) P := fun s o _ => ⟨a, s, rfl, o, by omega, h⟩
theorem Tr.bnd {α β : Type} {m : M α} {k : α → M β} {P : α → Prop} {Q : β → Prop} {i j : Nat} (h : Tr i m P) (H : ∀ a, P a → Tr j (k a) Q) : Tr (i + j) (EK.bnd m k) Q := fun s o l => by
  obtain ⟨a, s1, e1, o1, t1, p⟩ := h s o (by push_cast at l; omega)
  obtain ⟨b, s2, e2, o2, t2, q⟩ := H a p s1 o1 (by push_cast at l; omega)
  refine ⟨b, s2, ?_, o2, by push_cast; omega, q⟩
  unfold EK.bnd
  rw [e1]
  exact e2
theorem Tr.mono {α : Type} {m : M α} {P Q : α → Prop} {i j : Nat} (h : Tr i m P) (l : i ≤ j) (H : ∀ a, P a → Q a) : Tr j m Q := fun s o k => by
  obtain ⟨a, s1, e1, o1, t1, p⟩ := h s o (by omega)
  exact ⟨a, s1, e1, o1, by omega, H a p⟩
theorem Tr.le {α : Type} {m : M α} {P : α → Prop} {i j : Nat} (h : Tr i m P) (l : i ≤ j) : Tr j m P := h.mono l fun _ p => p
theorem Tr.imp {α : Type} {m : M α} {P Q : α → Prop} {i : Nat} (h : Tr i m P) (H : ∀ a, P a → Q a) : Tr i m Q := h.mono (Nat.le_refl _) H
theorem Tr.noErr {α : Type} {m : M α} {P : α → Prop} {i : Nat} (h : Tr i m P) : Tr i (EK.noErr m) P := fun s o l => by
  obtain ⟨a, s1, e1, o1, t1, p⟩ := h s o l
  refine ⟨a, s1, ?_, o1, t1, p⟩
  unfold EK.noErr
  rw [e1]
theorem Tr.eq {α : Type} {m : M α} {a : α} {P : α → Prop} (e : m = EK.ret a) (h : P a) : Tr 0 m P := by rw [e]; exact Tr.ret h
/-- a loop that draws -/
theorem Tr.forI {α : Type} (n : Nat) (enc : α → D) (I : Nat → Sls → Prop) (N : Nat) {a : SG} {b : SS} : ∀ (xs : List α) (i : Nat) (G : Sls), i + xs.length ≤ N → I i G →
    (∀ i G x, x ∈ xs → i < N → I i G → ∃ G1, a G (enc x) = some G1 ∧ Tr n (b G1) fun o => ∃ G2, o = .next G2 ∧ I (i + 1) G2) →
    Tr (n * xs.length) (forM a b (xs.map enc) G) fun o => ∃ G', o = .next G' ∧ I (i + xs.length) G'
  | [], i, G, _, h, _ => Tr.ret ⟨G, rfl, h⟩
  | x :: xs, i, G, hN, h, H => by
    rw [List.length_cons] at hN
    obtain ⟨G1, e1, t⟩ := H i G x (.head _) (by omega) h
    rw [List.map_cons, forM, e1, ofO_some, bnd_ret]
    refine Tr.le (Tr.bnd t fun o ⟨G2, e2, j⟩ => ?_) (show n + n * xs.length ≤ _ by rw [List.length_cons, Nat.mul_succ]; omega)
    subst e2
    refine (Tr.forI n enc I N xs (i + 1) G2 (by omega) j fun i G y hy => H i G y (.tail _ hy)).imp fun o ⟨G', e, k⟩ => ⟨G', e, ?_⟩
    rw [List.length_cons, Nat.add_comm xs.length 1, ← Nat.add_assoc]
    exact k
theorem sl0 : (0 ≤ PySem.sizeLine) = True := by unfold PySem.sizeLine; simp
theorem sl1 : (1 ≤ PySem.sizeLine) = True := by unfold PySem.sizeLine; simp
theorem sl2 : (2 ≤ PySem.sizeLine) = True := by unfold PySem.sizeLine; simp
theorem sl3 : (3 ≤ PySem.sizeLine) = True := by unfold PySem.sizeLine; simp
theorem sl4 : (4 ≤ PySem.sizeLine) = True := by unfold PySem.sizeLine; simp
theorem sl5 : (5 ≤ PySem.sizeLine) = True := by unfold PySem.sizeLine; simp
theorem sl6 : (6 ≤ PySem.sizeLine) = True := by unfold PySem.sizeLine; simp
theorem sl7 : (7 ≤ PySem.sizeLine) = True := by unfold PySem.sizeLine; simp
theorem sl8 : (8 ≤ PySem.sizeLine) = True := by unfold PySem.sizeLine; simp
theorem sl9 : (9 ≤ PySem.sizeLine) = True := by unfold PySem.sizeLine; simp
theorem sl10 : (10 ≤ PySem.sizeLine) = True := by unfold PySem.sizeLine; simp
theorem sl11 : (11 ≤ PySem.sizeLine) = True := by unfold PySem.sizeLine; simp
theorem sl12 : (12 ≤ PySem.sizeLine) = True := by unfold PySem.sizeLine; simp
theorem sl13 : (13 ≤ PySem.sizeLine) = True := by unfold PySem.sizeLine; simp
theorem itemsOf_lst (xs : List D) : itemsOf (.lst xs) = some xs := rfl
theorem itemsOf_tup (xs : List D) : itemsOf (.tup xs) = some xs := rfl
theorem itemsTL_lst (xs : List D) : itemsTL (.lst xs) = some xs := rfl
theorem itemsTL_tup (xs : List D) : itemsTL (.tup xs) = some xs := rfl
theorem itemsT_tup (xs : List D) : itemsT (.tup xs) = some xs := rfl
theorem asB_bl (b : Bool) : asB (.bl b) = some b := rfl
theorem asI_int (b : Int) : asI (.int b) = some b := rfl
theorem tupleD_lst (xs : List D) : tupleD [.lst xs] = some (.tup xs) := rfl
theorem tupleD_tup (xs : List D) : tupleD [.tup xs] = some (.tup xs) := rfl
theorem listD_lst (xs : List D) : listD [.lst xs] = some (.lst xs) := rfl
theorem listD_tup (xs : List D) : listD [.tup xs] = some (.lst xs) := rfl
theorem lenD_scr (xs : List Int) : lenD [.scr xs] = some (.int (xs.length : Int)) := rfl
theorem leI_int (i j : Int) : leI (.int i) (.int j) = some (.bl (decide (i ≤ j))) := rfl
theorem ltI_int (i j : Int) : ltI (.int i) (.int j) = some (.bl (decide (i < j))) := rfl
theorem gtI_int (i j : Int) : gtI (.int i) (.int j) = some (.bl (decide (j < i))) := rfl
theorem geI_int (i j : Int) : geI (.int i) (.int j) = some (.bl (decide (j ≤ i))) := rfl
theorem addD_int (i j : Int) : addD (.int i) (.int j) = some (.int (i + j)) := rfl
theorem subD_int (i j : Int) : subD (.int i) (.int j) = some (.int (i - j)) := rfl
theorem eqD_int (i j : Int) : eqD (.int i) (.int j) = some (.bl (decide (i = j))) := by
  have : PyData.eqv (.int i) (.int j) = decide (i = j) := by simp only [PyData.eqv]; rfl
  rw [← this]
  rfl
theorem neD_int (i j : Int) : neD (.int i) (.int j) = some (.bl (!decide (i = j))) := by
  have : PyData.eqv (.int i) (.int j) = decide (i = j) := by simp only [PyData.eqv]; rfl
  rw [← this]
  rfl
theorem eqD_bl (i j : Bool) : eqD (.bl i) (.bl j) = some (.bl (decide (i = j))) := by cases i <;> cases j <;> rfl
theorem neD_bl (i j : Bool) : neD (.bl i) (.bl j) = some (.bl (!decide (i = j))) := by cases i <;> cases j <;> rfl
theorem intD_int (i : Int) : intD [.int i] = some (.int i) := rfl
theorem sliceD_lst (lo hi : Option Int) (xs : List D) : sliceD lo hi (.lst xs) = some (.lst (cutL xs lo hi)) := rfl
theorem sliceD_tup (lo hi : Option Int) (xs : List D) : sliceD lo hi (.tup xs) = some (.tup (cutL xs lo hi)) := rfl
theorem cutL_from1 {α : Type} (xs : List α) : cutL xs (some 1) none = xs.drop 1 := by
  unfold cutL
  rw [HT.sIx_none, show HT.sIx xs.length 0 (some 1) = min 1 xs.length from HT.sIx_nat _ _ 1]
  cases xs with
  | nil => rfl
  | cons x xs => simp [List.take_of_length_le]
theorem cutL_to {α : Type} (xs : List α) (n : Nat) : cutL xs none (some (n : Int)) = xs.take n := by
  unfold cutL
  rw [HT.sIx_none, HT.sIx_nat]
  simp only [List.drop_zero, Nat.sub_zero]
  by_cases h : n ≤ xs.length
  · rw [Nat.min_eq_left h]
  · rw [Nat.min_eq_right (by omega), List.take_of_length_le (Nat.le_refl _), List.take_of_length_le (by omega)]
def catchM (kx : List Str) (m : M D) : M D := fun s => match m s with
  | none => none
  | some (.ok _, s') => some (.ok .non, s')
  | some (.err x, s') => if kx.contains x.cls then some (.ok (.exc x.cls x.ns x.xs), s') else none
theorem gCaught_def (kx : List Str) (f : SE) (G : Sls) : gCaught kx f G = catchM kx (f G) := rfl
theorem catchM_ret (kx : List Str) (d : D) : catchM kx (ret d) = ret .non := rfl
theorem bnd_throw {α β : Type} (x : Exn) (k : α → M β) : bnd (EK.throw x) k = EK.throw x := rfl
end EK
local macro_rules
  | `(tactic| simp! [$xs,*]) => `(tactic| simp -implicitDefEqProofs only [EK.sThrow0, EK.sThrow1, EK.gCaught_def, EK.catchM_ret, EK.bnd_throw, EK.gCallK, EK.pickL, List.filterMap_cons, List.filterMap_nil, EK.runB, EK.startG, EK.runI,
      EK.startI, EK.sSeq, EK.sAsg, EK.sRet, EK.sIf, EK.sFor, EK.sOwn, EK.sApp, EK.sFrz, EK.frz, EK.sExpr, EK.sNil,
      EK.sFldC, EK.sFldI, EK.sPar, EK.slF, EK.slO, EK.gv, EK.sa0, EK.saC, EK.saS, EK.gLst, EK.gTup, EK.g2,
      EK.g1, EK.gC, EK.tB', EK.g3, EK.bAnd, EK.bOr, EK.bNot, EK.vAnd, EK.vOr, EK.vNot, EK.vIf, EK.gLO,
      EK.gIt, EK.gItO, EK.gItC, EK.gLc, EK.gLc2, EK.gLD, EK.gLO1, EK.gLenO, EK.gSl, EK.oSome, EK.oNone, EK.gFld,
      EK.gMeth, EK.gMeth0, EK.gMake, EK.gCall, EK.g2M, EK.g1M, EK.gCM, EK.opC, EK.unC, EK.both, EK.negM, EK.lenC,
      EK.asLen, EK.gIxO, EK.sSetO, EK.ixO, EK.setO, EK.g2O, EK.g2O', EK.ownAt, EK.sgN, EK.sgT, EK.sgCons, EK.sgNil,
      EK.itemsOf_lst, EK.itemsOf_tup, EK.itemsTL_lst, EK.itemsTL_tup, EK.itemsT_tup, EK.asB_bl, EK.asI_int, EK.tupleD_lst, EK.tupleD_tup, EK.listD_lst, EK.listD_tup, EK.leI_int,
      EK.ltI_int, EK.gtI_int, EK.geI_int, EK.addD_int, EK.subD_int, EK.eqD_int, EK.neD_int, EK.eqD_bl, EK.neD_bl, EK.intD_int, EK.sliceD_lst, EK.sliceD_tup,
      EK.cutL_from1, EK.cutL_to, EK.wipeG, EK.fzG, EK.fzS, EK.yes, EK.lcB, EK.gProp, List.map_cons, List.map_nil, List.length_cons, List.length_nil,
      List.replicate, List.cons_append, List.nil_append, List.getElem?_cons_zero, List.getElem?_cons_succ, List.set_cons_zero, List.set_cons_succ, List.set_nil, Option.map_some, Option.bind_some, EK.bnd_ret, EK.bnd_assoc,
      EK.ofO_some, EK.noErr_ret, if_true, if_false, Nat.reduceSub, Nat.reduceAdd, Nat.reduceEqDiff, Nat.zero_add, Nat.sub_zero, Nat.sub_self, Nat.reduceLeDiff, EK.sl0,
      EK.sl1, EK.sl2, EK.sl3, EK.sl4, EK.sl5, EK.sl6, EK.sl7, EK.sl8, EK.sl9, EK.sl10, EK.sl11, EK.sl12,
      EK.sl13, Bool.not_true, Bool.not_false, Bool.false_eq_true, Bool.and_self, Bool.and_true, Bool.true_and, Bool.false_and, decide_true, decide_eq_true_eq, reduceIte, Option.map_none,
      Option.bind_none, Option.pure_def, Option.bind_eq_bind, $xs,*])


namespace EKL
open PySem PySem.Spec PyProof.Rows L2 EK
def b_law_mixed : SS := (sSeq (sPar 1 2 (slF (g2 addD (gDr 0 turnM) (fun _ => ret (.int 1)))) (slF (fun _ => ret (.int 0)))) (sSeq (sDr 0 putTurn (gv 1)) (sSeq (sFor (gIt (gLst (saC (fun _ => ret (.int 2147483647)) (saC (fun _ => ret (.int 2147483629)) (saC (fun _ => ret (.int 2147483587)) (saC (fun _ => ret (.int 2147483579)) sa0)))))) (sgN 3) (sSeq (sAsg (g2 addD (g2 mulD (fun _ => ret (.int 40014)) (gv 1)) (g2 fdivD (gv 3) (fun _ => ret (.int 19)))) (sgN 4)) (sSeq (sForC 0 (sgN 5) (sAsg (g2 modD (gC intD (saC (g2 addD (g2 addD (g2 mulD (gv 4) (fun _ => ret (.int 48271))) (gv 5)) (gv 1)) sa0)) (gv 3)) (sgN 4))) (sAsg (g2 addD (g2 mulD (gv 2) (fun _ => ret (.int 2147483647))) (g2 modD (gC intD (saC (g2 powD (gv 4) (fun _ => ret (.int 5))) sa0)) (gv 3))) (sgN 2))))) (sRet (gv 2)))))
def m_law_mixed : List D → M D := runB 6 b_law_mixed
def b_law_take : SS := (sSeq (sIf (tB' (g2 eqD (gDr 0 restM) (fun _ => ret (.int 0)))) (sDr 0 putRest (vIf (gDr 0 wideM) (gDr 0 popM) (gCall 1 m_law_mixed (saC (gv 0) sa0)))) sNil) (sSeq (sAsg (g2 modD (gC intD (saC (gDr 0 restM) sa0)) (gv 1)) (sgN 2)) (sSeq (sDr 0 putRest (g2 fdivD (gDr 0 restM) (gv 1))) (sRet (gv 2)))))
def m_law_take : List D → M D := runB 3 b_law_take
def b_law_shuffled : SS := (sSeq (sPar 2 3 (slO (gLO1 listD (saC (gv 1) sa0))) (slO (gLD sa0))) (sSeq (sWhile (fun G => ((ownAt G 2).getD []).length + 1) (tB' (g2O neD 2 (gLst sa0))) (sAppPop 3 2 (gCall 2 m_law_take (saC (gv 0) (saC (gLenO 2) sa0))))) (sFrz 3 (sRet (gv 3)))))
def m_law_shuffled : List D → M D := runB 4 b_law_shuffled
def b_law_labels : SS := (sSeq (sAsg (gLst (saC (fun _ => ret (.str "a")) (saC (fun _ => ret (.str "b")) (saC (fun _ => ret (.str "c")) (saC (fun _ => ret (.str "ab")) (saC (fun _ => ret (.str "x")) (saC (fun _ => ret (.str "lazy")) (saC (fun _ => ret (.str "none")) (saC (fun _ => ret (.str "zzzzzz")) (saC (fun _ => ret (.str "promis")) (saC (fun _ => ret (.str "fall")) (saC (fun _ => ret (.str "take")) (saC (fun _ => ret (.str "lead")) (saC (fun _ => ret (.str "entry")) sa0)))))))))))))) (sgN 2)) (sRet (gC sortedD (saC (gSl (gCall 2 m_law_shuffled (saC (gv 0) (saC (gv 2) sa0))) oNone (oSome (gv 1))) sa0))))
def m_law_labels : List D → M D := runB 3 b_law_labels
def b_law_heaps : SS := (sSeq (sAsg (gLst (saC (EK.gTup sa0) sa0)) (sgN 1)) (sSeq (sFor (gIt (gv 0)) (sgN 2) (sAsg (g2 addD (gv 1) (gLO (gLc [3] (gIt (gv 1)) (sgN 3) yes (g2 addD (gv 3) (EK.gTup (saC (gv 2) sa0)))))) (sgN 1))) (sRet (gLO (gLc [4, 3] (gIt (gC sortedD (saC (gLO (gLc [3] (gIt (gv 1)) (sgN 3) yes (EK.gTup (saC (gC lenD (saC (gv 3) sa0)) (saC (gv 3) sa0))))) sa0))) (sgT (sgCons (sgN 4) (sgCons (sgN 3) sgNil))) yes (gv 3))))))
def m_law_heaps : List D → M D := runB 5 b_law_heaps
def b_law_has_all : SS := (sRet (g2 eqD (gLO (gLc [2] (gIt (gv 1)) (sgN 2) (tB' (g2 ninZ (gv 2) (gv 0))) (gv 2))) (gLst sa0)))
def m_law_has_all : List D → M D := runB 3 b_law_has_all
def b_law_thin : SS := (sSeq (sOwn 1 (gLD sa0)) (sSeq (sFor (gIt (gC sortedD (saC (gLO (gLc [3] (gIt (gv 0)) (sgN 3) yes (EK.gTup (saC (gC lenD (saC (gv 3) sa0)) (saC (gv 3) sa0))))) sa0))) (sgT (sgCons (sgN 2) (sgCons (sgN 3) sgNil))) (sIf (tB' (g2 eqD (gLO (gLc [4] (gItO 1) (sgN 4) (tB' (gCall 2 m_law_has_all (saC (gv 3) (saC (gv 4) sa0)))) (gv 4))) (gLst sa0))) (sApp 1 (gv 3)) sNil)) (sFrz 1 (sRet (gv 1)))))
def m_law_thin : List D → M D := runB 5 b_law_thin
def b_law_pick : SS := (sRet (g2 ixD (gv 1) (gCall 2 m_law_take (saC (gv 0) (saC (gC lenD (saC (gv 1) sa0)) sa0)))))
def m_law_pick : List D → M D := runB 2 b_law_pick
def b_law_drawn_thin : SS := (sSeq (sAsg (EK.gTup (saC (gCall 2 m_law_take (saC (gv 0) (saC (fun _ => ret (.int 4)) sa0))) (saC (gSl (gCall 1 m_law_heaps (saC (gv 1) sa0)) (oSome (fun _ => ret (.int 1))) oNone) sa0))) (sgT (sgCons (sgN 2) (sgCons (sgN 3) sgNil)))) (sSeq (sIf (tB' (g2 eqD (gv 2) (fun _ => ret (.int 0)))) (sSeq (sAsg (g2 addD (fun _ => ret (.int 1)) (gCall 2 m_law_take (saC (gv 0) (saC (gC lenD (saC (gv 1) sa0)) sa0)))) (sgN 4)) (sRet (gLO (gLc [5] (gIt (gv 3)) (sgN 5) (tB' (g2 eqD (gC lenD (saC (gv 5) sa0)) (gv 4))) (gv 5))))) sNil) (sSeq (sIf (tB' (g2 eqD (gv 2) (fun _ => ret (.int 1)))) (sRet (gLO (gLc [5] (gIt (gv 3)) (sgN 5) (tB' (g2 eqD (gC lenD (saC (gv 5) sa0)) (g2 addD (g2 fdivD (gC lenD (saC (gv 1) sa0)) (fun _ => ret (.int 2))) (fun _ => ret (.int 1))))) (gv 5)))) sNil) (sRet (gCall 1 m_law_thin (saC (gLO (gLc [6] (gItC rng1 (saC (g2 addD (fun _ => ret (.int 1)) (gCall 2 m_law_take (saC (gv 0) (saC (fun _ => ret (.int 4)) sa0)))) sa0)) (sgN 6) yes (gCall 2 m_law_pick (saC (gv 0) (saC (gv 3) sa0))))) sa0))))))
def m_law_drawn_thin : List D → M D := runB 7 b_law_drawn_thin
def b_law_any_thin : SS := (sSeq (sAsg (gCall 2 m_law_take (saC (gv 0) (saC (fun _ => ret (.int 8)) sa0))) (sgN 2)) (sSeq (sIf (tB' (g2 ltI (gv 2) (fun _ => ret (.int 2)))) (sRet (g2 ixD (gLst (saC (gLst sa0) (saC (gLst (saC (EK.gTup sa0) sa0)) sa0))) (gv 2))) sNil) (sSeq (sIf (tB' (g2 ltI (gv 2) (fun _ => ret (.int 5)))) (sRet (gCall 2 m_law_drawn_thin (saC (gv 0) (saC (gv 1) sa0)))) sNil) (sSeq (sAsg (gSl (gCall 1 m_law_heaps (saC (gv 1) sa0)) (oSome (fun _ => ret (.int 1))) oNone) (sgN 3)) (sRet (gCall 1 m_law_thin (saC (gLO (gLc [4] (gItC rng1 (saC (g2 addD (fun _ => ret (.int 2)) (gCall 2 m_law_take (saC (gv 0) (saC (fun _ => ret (.int 7)) sa0)))) sa0)) (sgN 4) yes (gCall 2 m_law_pick (saC (gv 0) (saC (gv 3) sa0))))) sa0)))))))
def m_law_any_thin : List D → M D := runB 5 b_law_any_thin
def b_law_loose : SS := (sSeq (sOwn 3 (gLO1 listD (saC (gv 2) sa0))) (sSeq (sFor (gItC rng1 (saC (vIf (tB' (g2 neD (gv 2) (gLst sa0))) (gCall 2 m_law_take (saC (gv 0) (saC (fun _ => ret (.int 5)) sa0))) (fun _ => ret (.int 0))) sa0)) (sgN 4) (sSeq (sAsg (gCall 2 m_law_pick (saC (gv 0) (saC (gv 2) sa0))) (sgN 5)) (sApp 3 (gCall 2 m_law_pick (saC (gv 0) (saC (gLO (gLc [6] (gIt (gCall 1 m_law_heaps (saC (gv 1) sa0))) (sgN 6) (tB' (gCall 2 m_law_has_all (saC (gv 6) (saC (gv 5) sa0)))) (gv 6))) sa0)))))) (sFrz 3 (sRet (gCall 2 m_law_shuffled (saC (gv 0) (saC (gv 3) sa0)))))))
def m_law_loose : List D → M D := runB 7 b_law_loose
def b_is_list : SS := (sRet (g1 (isiD [] fun t => List.lookup t ([("NoneType", false), ("bool", false), ("int", false), ("str", false), ("tuple", true), ("list", true), ("dict", false)] : List (String × Bool))) (gv 0)))
def m_is_list : List D → M D := runB 1 b_is_list
def b_is_name : SS := (sRet (vAnd (g1 (isiD [] fun t => List.lookup t ([("NoneType", false), ("bool", false), ("int", false), ("str", true), ("tuple", false), ("list", false), ("dict", false)] : List (String × Bool))) (gv 0)) (vAnd (g3 leI leI (fun _ => ret (.int 1)) (gC lenD (saC (gv 0) sa0)) (fun _ => ret (.int 6))) (gC allD (saC (gLO (gLc [1] (gIt (gv 0)) (sgN 1) yes (g2 inD (gv 1) (fun _ => ret (.str "abcdefghijklmnopqrstuvwxyz"))))) sa0)))))
def m_is_name : List D → M D := runB 2 b_is_name
def b_are_machines : SS := (sSeq (sIf (bOr (bNot (tB' (gCall 1 m_is_list (saC (gv 0) sa0)))) (bOr (bNot (tB' (g3 leI leI (fun _ => ret (.int 1)) (gC lenD (saC (gv 0) sa0)) (fun _ => ret (.int 5))))) (bNot (tB' (gC allD (saC (gLO (gLc [1] (gIt (gv 0)) (sgN 1) yes (gCall 1 m_is_name (saC (gv 1) sa0)))) sa0)))))) (sRet (fun _ => ret (.bl false))) sNil) (sRet (g2 eqD (g1 (setD lenS) (gv 0)) (gC lenD (saC (gv 0) sa0)))))
def m_are_machines : List D → M D := runB 2 b_are_machines
def b_is_lot : SS := (sSeq (sIf (bOr (bNot (tB' (g1 (isiD [] fun t => List.lookup t ([("NoneType", false), ("bool", false), ("int", false), ("str", false), ("tuple", true), ("list", false), ("dict", false)] : List (String × Bool))) (gv 1)))) (bNot (tB' (gC allD (saC (gLO (gLc [2] (gIt (gv 1)) (sgN 2) yes (vAnd (g1 (isiD [] fun t => List.lookup t ([("NoneType", false), ("bool", false), ("int", false), ("str", true), ("tuple", false), ("list", false), ("dict", false)] : List (String × Bool))) (gv 2)) (g2 inD (gv 2) (gv 0))))) sa0))))) (sRet (fun _ => ret (.bl false))) sNil) (sRet (gC allD (saC (gLO (gLc [3, 4] (gItC zip2 (saC (gv 1) (saC (gSl (gv 1) (oSome (fun _ => ret (.int 1))) oNone) sa0))) (sgT (sgCons (sgN 3) (sgCons (sgN 4) sgNil))) yes (g2 ltP (gv 3) (gv 4)))) sa0))))
def m_is_lot : List D → M D := runB 5 b_is_lot
def b_are_lots : SS := (sRet (vAnd (gCall 1 m_is_list (saC (gv 1) sa0)) (vAnd (g2 leI (gC lenD (saC (gv 1) sa0)) (fun _ => ret (.int 32))) (gC allD (saC (gLO (gLc [2] (gIt (gv 1)) (sgN 2) yes (gCall 2 m_is_lot (saC (gv 0) (saC (gv 2) sa0))))) sa0)))))
def m_are_lots : List D → M D := runB 3 b_are_lots
def b_in_order : SS := (sRet (gLO (gLc [1, 2] (gIt (gC sortedD (saC (gLO (gLc [2] (gIt (gv 0)) (sgN 2) yes (EK.gTup (saC (gC lenD (saC (gv 2) sa0)) (saC (gv 2) sa0))))) sa0))) (sgT (sgCons (sgN 1) (sgCons (sgN 2) sgNil))) yes (gv 2))))
def m_in_order : List D → M D := runB 3 b_in_order
def b_is_inside : SS := (sRet (gC allD (saC (gLO (gLc [2] (gIt (gv 0)) (sgN 2) yes (g2 inD (gv 2) (gv 1)))) sa0)))
def m_is_inside : List D → M D := runB 3 b_is_inside
def b_least_of : SS := (sSeq (sOwn 1 (gLD sa0)) (sSeq (sFor (gIt (gCall 1 m_in_order (saC (gv 0) sa0))) (sgN 2) (sIf (bNot (tB' (gC anyD (saC (gLO (gLc [3] (gItO 1) (sgN 3) yes (gCall 2 m_is_inside (saC (gv 3) (saC (gv 2) sa0))))) sa0)))) (sApp 1 (gv 2)) sNil)) (sFrz 1 (sRet (gv 1)))))
def m_least_of : List D → M D := runB 4 b_least_of
def b_Family___init__ : SS := (sSeq (sIf (bNot (tB' (gCall 1 m_are_machines (saC (gv 1) sa0)))) (sThrow1 "BadFamily" "part" (fun _ => ret (.str "machines"))) sNil) (sSeq (sIf (bNot (tB' (gCall 2 m_are_lots (saC (gv 1) (saC (gv 2) sa0))))) (sThrow1 "BadFamily" "part" (fun _ => ret (.str "lots"))) sNil) (sSeq (sFldC "Family" "own_machines" (gC tupleD (saC (gC sortedD (saC (gv 1) sa0)) sa0))) (sFldC "Family" "own_least" (gCall 1 m_least_of (saC (gv 2) sa0))))))
def m_Family___init__ : List D → M (List Str × List D) := runI "Family" 3 b_Family___init__
def b_law_family : SS := (sSeq (sPar 3 4 (slF (gCall 2 m_law_shuffled (saC (gv 0) (saC (gv 1) sa0)))) (slF (gCall 3 m_law_loose (saC (gv 0) (saC (gv 1) (saC (gv 2) sa0)))))) (sSeq (sIf (tB' (g2 eqD (gCall 2 m_law_take (saC (gv 0) (saC (fun _ => ret (.int 2)) sa0))) (fun _ => ret (.int 0)))) (sRet (gMake "Family" 2 m_Family___init__ (saC (gC tupleD (saC (gv 3) sa0)) (saC (gC tupleD (saC (gv 4) sa0)) sa0)))) sNil) (sRet (gMake "Family" 2 m_Family___init__ (saC (gv 3) (saC (gv 4) sa0))))))
def m_law_family : List D → M D := runB 5 b_law_family
def b_Family___eq__ : SS := (sSeq (sIf (bNot (tB' (g1 (isiD [("Family", true)] fun t => List.lookup t ([("NoneType", false), ("bool", false), ("int", false), ("str", false), ("tuple", false), ("list", false), ("dict", false)] : List (String × Bool))) (gv 1)))) (sRet (fun _ => ret (.bl false))) sNil) (sRet (vAnd (g2 eqD (gFld "Family" "own_machines" (gv 0)) (gFld "Family" "own_machines" (gv 1))) (g2 eqD (gFld "Family" "own_least" (gv 0)) (gFld "Family" "own_least" (gv 1))))))
def m_Family___eq__ : List D → M D := runB 2 b_Family___eq__
def b_need_family : SS := (sIf (bNot (tB' (g1 (isiD [("Family", true)] fun t => List.lookup t ([("NoneType", false), ("bool", false), ("int", false), ("str", false), ("tuple", false), ("list", false), ("dict", false)] : List (String × Bool))) (gv 0)))) (sThrow1 "BadFamily" "part" (gv 1)) sNil)
def m_need_family : List D → M D := runB 2 b_need_family
def b_need_like : SS := (sIf (tB' (g2 neD (gFld "Family" "own_machines" (gv 0)) (gFld "Family" "own_machines" (gv 1)))) (sThrow0 "OtherMachines") sNil)
def m_need_like : List D → M D := runB 2 b_need_like
def b_merged : SS := (sRet (gC tupleD (saC (g1 (setD sortedS) (gLst (saS (gv 0) (saS (gv 1) sa0)))) sa0)))
def m_merged : List D → M D := runB 2 b_merged
def b_Family___and__ : SS := (sSeq (sExpr (gCall 2 m_need_family (saC (gv 1) (saC (fun _ => ret (.str "other")) sa0)))) (sSeq (sExpr (gCall 2 m_need_like (saC (gv 0) (saC (gv 1) sa0)))) (sRet (gMake "Family" 2 m_Family___init__ (saC (gFld "Family" "own_machines" (gv 0)) (saC (gCall 1 m_least_of (saC (gLO (gLc2 [2, 3] [3] (gIt (gFld "Family" "own_least" (gv 0))) (sgN 2) yes (gIt (gFld "Family" "own_least" (gv 1))) (sgN 3) yes (gCall 2 m_merged (saC (gv 2) (saC (gv 3) sa0))))) sa0)) sa0))))))
def m_Family___and__ : List D → M D := runB 4 b_Family___and__
def b_Family___or__ : SS := (sSeq (sExpr (gCall 2 m_need_family (saC (gv 1) (saC (fun _ => ret (.str "other")) sa0)))) (sSeq (sExpr (gCall 2 m_need_like (saC (gv 0) (saC (gv 1) sa0)))) (sRet (gMake "Family" 2 m_Family___init__ (saC (gFld "Family" "own_machines" (gv 0)) (saC (gLst (saS (gFld "Family" "own_least" (gv 0)) (saS (gFld "Family" "own_least" (gv 1)) sa0))) sa0))))))
def m_Family___or__ : List D → M D := runB 2 b_Family___or__
def b_lots_in_order : SS := (sSeq (sAsg (gLst (saC (EK.gTup sa0) sa0)) (sgN 1)) (sSeq (sFor (gIt (gC sortedD (saC (gv 0) sa0))) (sgN 2) (sAsg (g2 addD (gv 1) (gLO (gLc [3] (gIt (gv 1)) (sgN 3) yes (EK.gTup (saS (gv 3) (saC (gv 2) sa0)))))) (sgN 1))) (sRet (gCall 1 m_in_order (saC (gv 1) sa0)))))
def m_lots_in_order : List D → M D := runB 4 b_lots_in_order
def b_common : SS := (sRet (gC tupleD (saC (gLO (gLc [2] (gIt (gv 0)) (sgN 2) (tB' (g2 inD (gv 2) (gv 1))) (gv 2))) sa0)))
def m_common : List D → M D := runB 3 b_common
def b_against : SS := (sSeq (sAsg (gLO (gLc [3] (gIt (gCall 1 m_lots_in_order (saC (gv 0) sa0))) (sgN 3) (tB' (gC allD (saC (gLO (gLc [4] (gIt (gv 1)) (sgN 4) yes (g2 neD (gCall 2 m_common (saC (gv 3) (saC (gv 4) sa0))) (EK.gTup sa0)))) sa0))) (gv 3))) (sgN 2)) (sRet (gCall 1 m_least_of (saC (gv 2) sa0))))
def m_against : List D → M D := runB 5 b_against
def b_Family___invert__ : SS := (sRet (gMake "Family" 2 m_Family___init__ (saC (gFld "Family" "own_machines" (gv 0)) (saC (gCall 2 m_against (saC (gFld "Family" "own_machines" (gv 0)) (saC (gFld "Family" "own_least" (gv 0)) sa0))) sa0))))
def m_Family___invert__ : List D → M D := runB 1 b_Family___invert__
def b_need_two : SS := (sSeq (sExpr (gCall 2 m_need_family (saC (gv 0) (saC (fun _ => ret (.str "one")) sa0)))) (sSeq (sExpr (gCall 2 m_need_family (saC (gv 1) (saC (fun _ => ret (.str "other")) sa0)))) (sExpr (gCall 2 m_need_like (saC (gv 0) (saC (gv 1) sa0))))))
def m_need_two : List D → M D := runB 2 b_need_two
def b_holds : SS := (sRet (gC anyD (saC (gLO (gLc [2] (gIt (gFld "Family" "own_least" (gv 0))) (sgN 2) yes (gCall 2 m_is_inside (saC (gv 2) (saC (gv 1) sa0))))) sa0)))
def m_holds : List D → M D := runB 3 b_holds
def b_is_narrower : SS := (sSeq (sExpr (gCall 2 m_need_two (saC (gv 0) (saC (gv 1) sa0)))) (sRet (gC allD (saC (gLO (gLc [2] (gIt (gFld "Family" "own_least" (gv 0))) (sgN 2) yes (gCall 2 m_holds (saC (gv 1) (saC (gv 2) sa0))))) sa0))))
def m_is_narrower : List D → M D := runB 3 b_is_narrower
def b_Family_without : SS := (sSeq (sIf (bNot (tB' (gCall 2 m_is_lot (saC (gFld "Family" "own_machines" (gv 0)) (saC (gv 1) sa0))))) (sThrow0 "BadLot") sNil) (sRet (gMake "Family" 2 m_Family___init__ (saC (gFld "Family" "own_machines" (gv 0)) (saC (gLO (gLc [2] (gIt (gFld "Family" "own_least" (gv 0))) (sgN 2) (tB' (g2 eqD (gCall 2 m_common (saC (gv 2) (saC (gv 1) sa0))) (EK.gTup sa0))) (gv 2))) sa0)))))
def m_Family_without : List D → M D := runB 3 b_Family_without
def b_Family___len__ : SS := (sRet (gC lenD (saC (gFld "Family" "own_least" (gv 0)) sa0)))
def m_Family___len__ : List D → M D := runB 1 b_Family___len__
def b_Family_enough : SS := (sSeq (sIf (bNot (tB' (gCall 2 m_is_lot (saC (gFld "Family" "own_machines" (gv 0)) (saC (gv 1) sa0))))) (sThrow0 "BadLot") sNil) (sRet (gCall 2 m_holds (saC (gv 0) (saC (gv 1) sa0)))))
def m_Family_enough : List D → M D := runB 2 b_Family_enough
end EKL


namespace K01
open PySem PySem.Spec PyProof.Rows L2 EK EKL
abbrev N_law_mixed : List Str := ["_law_draw", "_law_turn", "_law_found", "_law_prime", "_law_blend", "_law_grain"]
theorem sc_law_mixed : FnScope N_law_mixed ["_law_draw"] (defScope s_law_mixed) := ⟨rfl, rfl, rfl, by decide +kernel, rfl, by decide +kernel, by decide +kernel⟩
abbrev N_law_take : List Str := ["_law_draw", "_law_size", "_law_found"]
theorem sc_law_take : FnScope N_law_take ["_law_draw", "_law_size"] (defScope s_law_take) := ⟨rfl, rfl, rfl, by decide +kernel, rfl, by decide +kernel, by decide +kernel⟩
abbrev N_law_pick : List Str := ["_law_draw", "_law_some"]
theorem sc_law_pick : FnScope N_law_pick ["_law_draw", "_law_some"] (defScope s_law_pick) := ⟨rfl, rfl, rfl, by decide +kernel, rfl, by decide +kernel, by decide +kernel⟩
abbrev N_law_with : List Str := ["_law_item", "_law_found"]
theorem sc_law_with : FnScope N_law_with ["_law_item"] (defScope s_law_with) := ⟨rfl, rfl, rfl, by decide +kernel, rfl, by decide +kernel, by decide +kernel⟩
def b_law_with : SS := (sSeq (sAsg (gLst (saC (gMkX "BadFamily" "part" (gv 0)) (saC (gMkX "BadCount" "count" (gv 0)) (saC (gMkX "BadQuota" "quota" (gv 0)) (saC (gMkX "BadHand" "part" (gv 0)) (saC (gMkX "BadBook" "part" (gv 0)) (saC (gMkX "BadMachine" "machine" (gv 0)) sa0))))))) (sgN 1)) (sSeq (sAsg (g2 addD (gv 1) (gLst (saC (gMkX "BadLeft" "left" (gv 0)) (saC (gMkX "BadDeed" "at" (gv 0)) (saC (gMkX "BadFalls" "falls" (gv 0)) (saC (gMkX "BadStages" "part" (gv 0)) (saC (gMkX "BadIndex" "index" (gv 0)) (saC (gMkX "BadPlace" "place" (gv 0)) sa0)))))))) (sgN 1)) (sRet (g2 addD (gv 1) (gLst (saC (gMkX "NoTalk" "term" (gv 0)) (saC (gMkX "CutOff" "place" (gv 0)) (saC (gMkX "BadJournal" "at" (gv 0)) (saC (gMkX "BadText" "row" (gv 0)) sa0)))))))))
def m_law_with : List D → M D := runB 2 b_law_with
abbrev N_law_without : List Str := ["_law_said", "_law_found"]
theorem sc_law_without : FnScope N_law_without [] (defScope s_law_without) := ⟨rfl, rfl, rfl, by decide +kernel, rfl, by decide +kernel, by decide +kernel⟩
def b_law_without : SS := (sSeq (sAsg (fun _ => ret (.str "no such thing")) (sgN 0)) (sSeq (sAsg (gLst (saC (gMkM "OtherMachines" (gv 0)) (saC (gMkM "BadLot" (gv 0)) (saC (gMkM "BadWeights" (gv 0)) (saC (gMkM "BadRacks" (gv 0)) (saC (gMkM "BadLog" (gv 0)) (saC (gMkM "BadRecord" (gv 0)) sa0))))))) (sgN 1)) (sSeq (sAsg (g2 addD (gv 1) (gLst (saC (gMkM "BadStanding" (gv 0)) (saC (gMkM "BadTold" (gv 0)) (saC (gMkM "BadEntries" (gv 0)) (saC (gMkM "BadPrices" (gv 0)) (saC (gMkM "NotRight" (gv 0)) sa0))))))) (sgN 1)) (sRet (g2 addD (gv 1) (gLst (saC (gMkM "NotNewest" (gv 0)) (saC (gMkM "BadRun" (gv 0)) (saC (gMkM "BadSpread" (gv 0)) (saC (gMkM "NoLots" (gv 0)) (saC (gMkM "BadCourse" (gv 0)) (saC (gMkM "NothingDone" (gv 0)) sa0))))))))))))
def m_law_without : List D → M D := runB 2 b_law_without
abbrev N_law_told : List Str := ["_law_some", "_law_found"]
theorem sc_law_told : FnScope N_law_told ["_law_some"] (defScope s_law_told) := ⟨rfl, rfl, rfl, by decide +kernel, rfl, by decide +kernel, by decide +kernel⟩
def b_law_told : SS := (sSeq (sAsg (gLst (saC (g1 (fldXD ["BadBook", "BadFamily", "BadHand", "BadStages"] "part") (g2 ixD (gv 0) (fun _ => ret (.int 0)))) (saC (g1 (fldXD ["BadCount"] "count") (g2 ixD (gv 0) (fun _ => ret (.int 1)))) (saC (g1 (fldXD ["BadQuota"] "quota") (g2 ixD (gv 0) (fun _ => ret (.int 2)))) (saC (g1 (fldXD ["BadBook", "BadFamily", "BadHand", "BadStages"] "part") (g2 ixD (gv 0) (fun _ => ret (.int 3)))) (saC (g1 (fldXD ["BadBook", "BadFamily", "BadHand", "BadStages"] "part") (g2 ixD (gv 0) (fun _ => ret (.int 4)))) (saC (g1 (fldXD ["BadMachine"] "machine") (g2 ixD (gv 0) (fun _ => ret (.int 5)))) (saC (g1 (fldXD ["BadLeft"] "left") (g2 ixD (gv 0) (fun _ => ret (.int 6)))) sa0)))))))) (sgN 1)) (sSeq (sAsg (g2 addD (gv 1) (gLst (saC (g1 (fldXD ["BadDeed", "BadJournal"] "at") (g2 ixD (gv 0) (fun _ => ret (.int 7)))) (saC (g1 (fldXD ["BadFalls"] "falls") (g2 ixD (gv 0) (fun _ => ret (.int 8)))) (saC (g1 (fldXD ["BadBook", "BadFamily", "BadHand", "BadStages"] "part") (g2 ixD (gv 0) (fun _ => ret (.int 9)))) (saC (g1 (fldXD ["BadIndex"] "index") (g2 ixD (gv 0) (fun _ => ret (.int 10)))) (saC (g1 (fldXD ["BadPlace", "CutOff"] "place") (g2 ixD (gv 0) (fun _ => ret (.int 11)))) (saC (g1 (fldXD ["NoTalk"] "term") (g2 ixD (gv 0) (fun _ => ret (.int 12)))) sa0)))))))) (sgN 1)) (sRet (g2 addD (gv 1) (gLst (saC (g1 (fldXD ["BadPlace", "CutOff"] "place") (g2 ixD (gv 0) (fun _ => ret (.int 13)))) (saC (g1 (fldXD ["BadDeed", "BadJournal"] "at") (g2 ixD (gv 0) (fun _ => ret (.int 14)))) (saC (g1 (fldXD ["BadText"] "row") (g2 ixD (gv 0) (fun _ => ret (.int 15)))) sa0))))))))
def m_law_told : List D → M D := runB 2 b_law_told
abbrev N_law_by_name : List Str := ["_law_item", "_law_found"]
theorem sc_law_by_name : FnScope N_law_by_name ["_law_item"] (defScope s_law_by_name) := ⟨rfl, rfl, rfl, by decide +kernel, rfl, by decide +kernel, by decide +kernel⟩
def b_law_by_name : SS := (sSeq (sAsg (gLst (saC (gMkXK "BadFamily" "part" (saC (gv 0) sa0)) (saC (gMkXK "BadCount" "count" (saC (gv 0) sa0)) (saC (gMkXK "BadQuota" "quota" (saC (gv 0) sa0)) (saC (gMkXK "BadHand" "part" (saC (gv 0) sa0)) (saC (gMkXK "BadBook" "part" (saC (gv 0) sa0)) sa0)))))) (sgN 1)) (sSeq (sAsg (g2 addD (gv 1) (gLst (saC (gMkXK "BadMachine" "machine" (saC (gv 0) sa0)) (saC (gMkXK "BadLeft" "left" (saC (gv 0) sa0)) (saC (gMkXK "BadDeed" "at" (saC (gv 0) sa0)) (saC (gMkXK "BadFalls" "falls" (saC (gv 0) sa0)) sa0)))))) (sgN 1)) (sSeq (sAsg (g2 addD (gv 1) (gLst (saC (gMkXK "BadStages" "part" (saC (gv 0) sa0)) (saC (gMkXK "BadIndex" "index" (saC (gv 0) sa0)) (saC (gMkXK "BadPlace" "place" (saC (gv 0) sa0)) (saC (gMkXK "NoTalk" "term" (saC (gv 0) sa0)) sa0)))))) (sgN 1)) (sRet (g2 addD (gv 1) (gLst (saC (gMkXK "CutOff" "place" (saC (gv 0) sa0)) (saC (gMkXK "BadJournal" "at" (saC (gv 0) sa0)) (saC (gMkXK "BadText" "row" (saC (gv 0) sa0)) sa0)))))))))
def m_law_by_name : List D → M D := runB 2 b_law_by_name
abbrev N_law_first_marks : List Str := ["_law_error", "_law_found"]
theorem sc_law_first_marks : FnScope N_law_first_marks ["_law_error"] (defScope s_law_first_marks) := ⟨rfl, rfl, rfl, by decide +kernel, rfl, by decide +kernel, by decide +kernel⟩
def b_law_first_marks : SS := (sSeq (sAsg (gLst (saC (g1 (isiYD (("BadBook", false) :: ("BadCount", false) :: ("BadCourse", false) :: ("BadDeed", false) :: ("BadEntries", false) :: ("BadFalls", false) :: ("BadFamily", true) :: ("BadHand", false) :: ("BadIndex", false) :: ("BadJournal", false) :: ("BadLeft", false) :: ("BadLog", false) :: ("BadLot", false) :: ("BadMachine", false) :: ("BadPlace", false) :: ("BadPrices", false) :: ("BadQuota", false) :: ("BadRacks", false) :: ("BadRecord", false) :: ("BadRun", false) :: ("BadSpread", false) :: ("BadStages", false) :: ("BadStanding", false) :: ("BadText", false) :: ("BadTold", false) :: ("BadWeights", false) :: ("CutOff", false) :: ("NoLots", false) :: ("NoTalk", false) :: ("NotNewest", false) :: ("NotRight", false) :: ("NothingDone", false) :: ("OtherMachines", false) :: []) [] fun t => List.lookup t ([("NoneType", false), ("bool", false), ("int", false), ("str", false), ("tuple", false), ("list", false), ("dict", false)] : List (String × Bool))) (gv 0)) (saC (g1 (isiYD (("BadBook", false) :: ("BadCount", true) :: ("BadCourse", false) :: ("BadDeed", false) :: ("BadEntries", false) :: ("BadFalls", false) :: ("BadFamily", false) :: ("BadHand", false) :: ("BadIndex", false) :: ("BadJournal", false) :: ("BadLeft", false) :: ("BadLog", false) :: ("BadLot", false) :: ("BadMachine", false) :: ("BadPlace", false) :: ("BadPrices", false) :: ("BadQuota", false) :: ("BadRacks", false) :: ("BadRecord", false) :: ("BadRun", false) :: ("BadSpread", false) :: ("BadStages", false) :: ("BadStanding", false) :: ("BadText", false) :: ("BadTold", false) :: ("BadWeights", false) :: ("CutOff", false) :: ("NoLots", false) :: ("NoTalk", false) :: ("NotNewest", false) :: ("NotRight", false) :: ("NothingDone", false) :: ("OtherMachines", false) :: []) [] fun t => List.lookup t ([("NoneType", false), ("bool", false), ("int", false), ("str", false), ("tuple", false), ("list", false), ("dict", false)] : List (String × Bool))) (gv 0)) (saC (g1 (isiYD (("BadBook", false) :: ("BadCount", false) :: ("BadCourse", false) :: ("BadDeed", false) :: ("BadEntries", false) :: ("BadFalls", false) :: ("BadFamily", false) :: ("BadHand", false) :: ("BadIndex", false) :: ("BadJournal", false) :: ("BadLeft", false) :: ("BadLog", false) :: ("BadLot", false) :: ("BadMachine", false) :: ("BadPlace", false) :: ("BadPrices", false) :: ("BadQuota", true) :: ("BadRacks", false) :: ("BadRecord", false) :: ("BadRun", false) :: ("BadSpread", false) :: ("BadStages", false) :: ("BadStanding", false) :: ("BadText", false) :: ("BadTold", false) :: ("BadWeights", false) :: ("CutOff", false) :: ("NoLots", false) :: ("NoTalk", false) :: ("NotNewest", false) :: ("NotRight", false) :: ("NothingDone", false) :: ("OtherMachines", false) :: []) [] fun t => List.lookup t ([("NoneType", false), ("bool", false), ("int", false), ("str", false), ("tuple", false), ("list", false), ("dict", false)] : List (String × Bool))) (gv 0)) sa0)))) (sgN 1)) (sSeq (sAsg (g2 addD (gv 1) (gLst (saC (g1 (isiYD (("BadBook", false) :: ("BadCount", false) :: ("BadCourse", false) :: ("BadDeed", false) :: ("BadEntries", false) :: ("BadFalls", false) :: ("BadFamily", false) :: ("BadHand", true) :: ("BadIndex", false) :: ("BadJournal", false) :: ("BadLeft", false) :: ("BadLog", false) :: ("BadLot", false) :: ("BadMachine", false) :: ("BadPlace", false) :: ("BadPrices", false) :: ("BadQuota", false) :: ("BadRacks", false) :: ("BadRecord", false) :: ("BadRun", false) :: ("BadSpread", false) :: ("BadStages", false) :: ("BadStanding", false) :: ("BadText", false) :: ("BadTold", false) :: ("BadWeights", false) :: ("CutOff", false) :: ("NoLots", false) :: ("NoTalk", false) :: ("NotNewest", false) :: ("NotRight", false) :: ("NothingDone", false) :: ("OtherMachines", false) :: []) [] fun t => List.lookup t ([("NoneType", false), ("bool", false), ("int", false), ("str", false), ("tuple", false), ("list", false), ("dict", false)] : List (String × Bool))) (gv 0)) (saC (g1 (isiYD (("BadBook", true) :: ("BadCount", false) :: ("BadCourse", false) :: ("BadDeed", false) :: ("BadEntries", false) :: ("BadFalls", false) :: ("BadFamily", false) :: ("BadHand", false) :: ("BadIndex", false) :: ("BadJournal", false) :: ("BadLeft", false) :: ("BadLog", false) :: ("BadLot", false) :: ("BadMachine", false) :: ("BadPlace", false) :: ("BadPrices", false) :: ("BadQuota", false) :: ("BadRacks", false) :: ("BadRecord", false) :: ("BadRun", false) :: ("BadSpread", false) :: ("BadStages", false) :: ("BadStanding", false) :: ("BadText", false) :: ("BadTold", false) :: ("BadWeights", false) :: ("CutOff", false) :: ("NoLots", false) :: ("NoTalk", false) :: ("NotNewest", false) :: ("NotRight", false) :: ("NothingDone", false) :: ("OtherMachines", false) :: []) [] fun t => List.lookup t ([("NoneType", false), ("bool", false), ("int", false), ("str", false), ("tuple", false), ("list", false), ("dict", false)] : List (String × Bool))) (gv 0)) (saC (g1 (isiYD (("BadBook", false) :: ("BadCount", false) :: ("BadCourse", false) :: ("BadDeed", false) :: ("BadEntries", false) :: ("BadFalls", false) :: ("BadFamily", false) :: ("BadHand", false) :: ("BadIndex", false) :: ("BadJournal", false) :: ("BadLeft", false) :: ("BadLog", false) :: ("BadLot", false) :: ("BadMachine", true) :: ("BadPlace", false) :: ("BadPrices", false) :: ("BadQuota", false) :: ("BadRacks", false) :: ("BadRecord", false) :: ("BadRun", false) :: ("BadSpread", false) :: ("BadStages", false) :: ("BadStanding", false) :: ("BadText", false) :: ("BadTold", false) :: ("BadWeights", false) :: ("CutOff", false) :: ("NoLots", false) :: ("NoTalk", false) :: ("NotNewest", false) :: ("NotRight", false) :: ("NothingDone", false) :: ("OtherMachines", false) :: []) [] fun t => List.lookup t ([("NoneType", false), ("bool", false), ("int", false), ("str", false), ("tuple", false), ("list", false), ("dict", false)] : List (String × Bool))) (gv 0)) sa0))))) (sgN 1)) (sSeq (sAsg (g2 addD (gv 1) (gLst (saC (g1 (isiYD (("BadBook", false) :: ("BadCount", false) :: ("BadCourse", false) :: ("BadDeed", false) :: ("BadEntries", false) :: ("BadFalls", false) :: ("BadFamily", false) :: ("BadHand", false) :: ("BadIndex", false) :: ("BadJournal", false) :: ("BadLeft", true) :: ("BadLog", false) :: ("BadLot", false) :: ("BadMachine", false) :: ("BadPlace", false) :: ("BadPrices", false) :: ("BadQuota", false) :: ("BadRacks", false) :: ("BadRecord", false) :: ("BadRun", false) :: ("BadSpread", false) :: ("BadStages", false) :: ("BadStanding", false) :: ("BadText", false) :: ("BadTold", false) :: ("BadWeights", false) :: ("CutOff", false) :: ("NoLots", false) :: ("NoTalk", false) :: ("NotNewest", false) :: ("NotRight", false) :: ("NothingDone", false) :: ("OtherMachines", false) :: []) [] fun t => List.lookup t ([("NoneType", false), ("bool", false), ("int", false), ("str", false), ("tuple", false), ("list", false), ("dict", false)] : List (String × Bool))) (gv 0)) (saC (g1 (isiYD (("BadBook", false) :: ("BadCount", false) :: ("BadCourse", false) :: ("BadDeed", true) :: ("BadEntries", false) :: ("BadFalls", false) :: ("BadFamily", false) :: ("BadHand", false) :: ("BadIndex", false) :: ("BadJournal", false) :: ("BadLeft", false) :: ("BadLog", false) :: ("BadLot", false) :: ("BadMachine", false) :: ("BadPlace", false) :: ("BadPrices", false) :: ("BadQuota", false) :: ("BadRacks", false) :: ("BadRecord", false) :: ("BadRun", false) :: ("BadSpread", false) :: ("BadStages", false) :: ("BadStanding", false) :: ("BadText", false) :: ("BadTold", false) :: ("BadWeights", false) :: ("CutOff", false) :: ("NoLots", false) :: ("NoTalk", false) :: ("NotNewest", false) :: ("NotRight", false) :: ("NothingDone", false) :: ("OtherMachines", false) :: []) [] fun t => List.lookup t ([("NoneType", false), ("bool", false), ("int", false), ("str", false), ("tuple", false), ("list", false), ("dict", false)] : List (String × Bool))) (gv 0)) (saC (g1 (isiYD (("BadBook", false) :: ("BadCount", false) :: ("BadCourse", false) :: ("BadDeed", false) :: ("BadEntries", false) :: ("BadFalls", true) :: ("BadFamily", false) :: ("BadHand", false) :: ("BadIndex", false) :: ("BadJournal", false) :: ("BadLeft", false) :: ("BadLog", false) :: ("BadLot", false) :: ("BadMachine", false) :: ("BadPlace", false) :: ("BadPrices", false) :: ("BadQuota", false) :: ("BadRacks", false) :: ("BadRecord", false) :: ("BadRun", false) :: ("BadSpread", false) :: ("BadStages", false) :: ("BadStanding", false) :: ("BadText", false) :: ("BadTold", false) :: ("BadWeights", false) :: ("CutOff", false) :: ("NoLots", false) :: ("NoTalk", false) :: ("NotNewest", false) :: ("NotRight", false) :: ("NothingDone", false) :: ("OtherMachines", false) :: []) [] fun t => List.lookup t ([("NoneType", false), ("bool", false), ("int", false), ("str", false), ("tuple", false), ("list", false), ("dict", false)] : List (String × Bool))) (gv 0)) sa0))))) (sgN 1)) (sSeq (sAsg (g2 addD (gv 1) (gLst (saC (g1 (isiYD (("BadBook", false) :: ("BadCount", false) :: ("BadCourse", false) :: ("BadDeed", false) :: ("BadEntries", false) :: ("BadFalls", false) :: ("BadFamily", false) :: ("BadHand", false) :: ("BadIndex", false) :: ("BadJournal", false) :: ("BadLeft", false) :: ("BadLog", false) :: ("BadLot", false) :: ("BadMachine", false) :: ("BadPlace", false) :: ("BadPrices", false) :: ("BadQuota", false) :: ("BadRacks", false) :: ("BadRecord", false) :: ("BadRun", false) :: ("BadSpread", false) :: ("BadStages", true) :: ("BadStanding", false) :: ("BadText", false) :: ("BadTold", false) :: ("BadWeights", false) :: ("CutOff", false) :: ("NoLots", false) :: ("NoTalk", false) :: ("NotNewest", false) :: ("NotRight", false) :: ("NothingDone", false) :: ("OtherMachines", false) :: []) [] fun t => List.lookup t ([("NoneType", false), ("bool", false), ("int", false), ("str", false), ("tuple", false), ("list", false), ("dict", false)] : List (String × Bool))) (gv 0)) (saC (g1 (isiYD (("BadBook", false) :: ("BadCount", false) :: ("BadCourse", false) :: ("BadDeed", false) :: ("BadEntries", false) :: ("BadFalls", false) :: ("BadFamily", false) :: ("BadHand", false) :: ("BadIndex", true) :: ("BadJournal", false) :: ("BadLeft", false) :: ("BadLog", false) :: ("BadLot", false) :: ("BadMachine", false) :: ("BadPlace", false) :: ("BadPrices", false) :: ("BadQuota", false) :: ("BadRacks", false) :: ("BadRecord", false) :: ("BadRun", false) :: ("BadSpread", false) :: ("BadStages", false) :: ("BadStanding", false) :: ("BadText", false) :: ("BadTold", false) :: ("BadWeights", false) :: ("CutOff", false) :: ("NoLots", false) :: ("NoTalk", false) :: ("NotNewest", false) :: ("NotRight", false) :: ("NothingDone", false) :: ("OtherMachines", false) :: []) [] fun t => List.lookup t ([("NoneType", false), ("bool", false), ("int", false), ("str", false), ("tuple", false), ("list", false), ("dict", false)] : List (String × Bool))) (gv 0)) (saC (g1 (isiYD (("BadBook", false) :: ("BadCount", false) :: ("BadCourse", false) :: ("BadDeed", false) :: ("BadEntries", false) :: ("BadFalls", false) :: ("BadFamily", false) :: ("BadHand", false) :: ("BadIndex", false) :: ("BadJournal", false) :: ("BadLeft", false) :: ("BadLog", false) :: ("BadLot", false) :: ("BadMachine", false) :: ("BadPlace", true) :: ("BadPrices", false) :: ("BadQuota", false) :: ("BadRacks", false) :: ("BadRecord", false) :: ("BadRun", false) :: ("BadSpread", false) :: ("BadStages", false) :: ("BadStanding", false) :: ("BadText", false) :: ("BadTold", false) :: ("BadWeights", false) :: ("CutOff", false) :: ("NoLots", false) :: ("NoTalk", false) :: ("NotNewest", false) :: ("NotRight", false) :: ("NothingDone", false) :: ("OtherMachines", false) :: []) [] fun t => List.lookup t ([("NoneType", false), ("bool", false), ("int", false), ("str", false), ("tuple", false), ("list", false), ("dict", false)] : List (String × Bool))) (gv 0)) sa0))))) (sgN 1)) (sSeq (sAsg (g2 addD (gv 1) (gLst (saC (g1 (isiYD (("BadBook", false) :: ("BadCount", false) :: ("BadCourse", false) :: ("BadDeed", false) :: ("BadEntries", false) :: ("BadFalls", false) :: ("BadFamily", false) :: ("BadHand", false) :: ("BadIndex", false) :: ("BadJournal", false) :: ("BadLeft", false) :: ("BadLog", false) :: ("BadLot", false) :: ("BadMachine", false) :: ("BadPlace", false) :: ("BadPrices", false) :: ("BadQuota", false) :: ("BadRacks", false) :: ("BadRecord", false) :: ("BadRun", false) :: ("BadSpread", false) :: ("BadStages", false) :: ("BadStanding", false) :: ("BadText", false) :: ("BadTold", false) :: ("BadWeights", false) :: ("CutOff", false) :: ("NoLots", false) :: ("NoTalk", true) :: ("NotNewest", false) :: ("NotRight", false) :: ("NothingDone", false) :: ("OtherMachines", false) :: []) [] fun t => List.lookup t ([("NoneType", false), ("bool", false), ("int", false), ("str", false), ("tuple", false), ("list", false), ("dict", false)] : List (String × Bool))) (gv 0)) (saC (g1 (isiYD (("BadBook", false) :: ("BadCount", false) :: ("BadCourse", false) :: ("BadDeed", false) :: ("BadEntries", false) :: ("BadFalls", false) :: ("BadFamily", false) :: ("BadHand", false) :: ("BadIndex", false) :: ("BadJournal", false) :: ("BadLeft", false) :: ("BadLog", false) :: ("BadLot", false) :: ("BadMachine", false) :: ("BadPlace", false) :: ("BadPrices", false) :: ("BadQuota", false) :: ("BadRacks", false) :: ("BadRecord", false) :: ("BadRun", false) :: ("BadSpread", false) :: ("BadStages", false) :: ("BadStanding", false) :: ("BadText", false) :: ("BadTold", false) :: ("BadWeights", false) :: ("CutOff", true) :: ("NoLots", false) :: ("NoTalk", false) :: ("NotNewest", false) :: ("NotRight", false) :: ("NothingDone", false) :: ("OtherMachines", false) :: []) [] fun t => List.lookup t ([("NoneType", false), ("bool", false), ("int", false), ("str", false), ("tuple", false), ("list", false), ("dict", false)] : List (String × Bool))) (gv 0)) (saC (g1 (isiYD (("BadBook", false) :: ("BadCount", false) :: ("BadCourse", false) :: ("BadDeed", false) :: ("BadEntries", false) :: ("BadFalls", false) :: ("BadFamily", false) :: ("BadHand", false) :: ("BadIndex", false) :: ("BadJournal", true) :: ("BadLeft", false) :: ("BadLog", false) :: ("BadLot", false) :: ("BadMachine", false) :: ("BadPlace", false) :: ("BadPrices", false) :: ("BadQuota", false) :: ("BadRacks", false) :: ("BadRecord", false) :: ("BadRun", false) :: ("BadSpread", false) :: ("BadStages", false) :: ("BadStanding", false) :: ("BadText", false) :: ("BadTold", false) :: ("BadWeights", false) :: ("CutOff", false) :: ("NoLots", false) :: ("NoTalk", false) :: ("NotNewest", false) :: ("NotRight", false) :: ("NothingDone", false) :: ("OtherMachines", false) :: []) [] fun t => List.lookup t ([("NoneType", false), ("bool", false), ("int", false), ("str", false), ("tuple", false), ("list", false), ("dict", false)] : List (String × Bool))) (gv 0)) sa0))))) (sgN 1)) (sRet (g2 addD (gv 1) (gLst (saC (g1 (isiYD (("BadBook", false) :: ("BadCount", false) :: ("BadCourse", false) :: ("BadDeed", false) :: ("BadEntries", false) :: ("BadFalls", false) :: ("BadFamily", false) :: ("BadHand", false) :: ("BadIndex", false) :: ("BadJournal", false) :: ("BadLeft", false) :: ("BadLog", false) :: ("BadLot", false) :: ("BadMachine", false) :: ("BadPlace", false) :: ("BadPrices", false) :: ("BadQuota", false) :: ("BadRacks", false) :: ("BadRecord", false) :: ("BadRun", false) :: ("BadSpread", false) :: ("BadStages", false) :: ("BadStanding", false) :: ("BadText", true) :: ("BadTold", false) :: ("BadWeights", false) :: ("CutOff", false) :: ("NoLots", false) :: ("NoTalk", false) :: ("NotNewest", false) :: ("NotRight", false) :: ("NothingDone", false) :: ("OtherMachines", false) :: []) [] fun t => List.lookup t ([("NoneType", false), ("bool", false), ("int", false), ("str", false), ("tuple", false), ("list", false), ("dict", false)] : List (String × Bool))) (gv 0)) sa0)))))))))
def m_law_first_marks : List D → M D := runB 2 b_law_first_marks
abbrev N_law_last_marks : List Str := ["_law_error", "_law_found"]
theorem sc_law_last_marks : FnScope N_law_last_marks ["_law_error"] (defScope s_law_last_marks) := ⟨rfl, rfl, rfl, by decide +kernel, rfl, by decide +kernel, by decide +kernel⟩
def b_law_last_marks : SS := (sSeq (sAsg (gLst (saC (g1 (isiYD (("BadBook", false) :: ("BadCount", false) :: ("BadCourse", false) :: ("BadDeed", false) :: ("BadEntries", false) :: ("BadFalls", false) :: ("BadFamily", false) :: ("BadHand", false) :: ("BadIndex", false) :: ("BadJournal", false) :: ("BadLeft", false) :: ("BadLog", false) :: ("BadLot", false) :: ("BadMachine", false) :: ("BadPlace", false) :: ("BadPrices", false) :: ("BadQuota", false) :: ("BadRacks", false) :: ("BadRecord", false) :: ("BadRun", false) :: ("BadSpread", false) :: ("BadStages", false) :: ("BadStanding", false) :: ("BadText", false) :: ("BadTold", false) :: ("BadWeights", false) :: ("CutOff", false) :: ("NoLots", false) :: ("NoTalk", false) :: ("NotNewest", false) :: ("NotRight", false) :: ("NothingDone", false) :: ("OtherMachines", true) :: []) [] fun t => List.lookup t ([("NoneType", false), ("bool", false), ("int", false), ("str", false), ("tuple", false), ("list", false), ("dict", false)] : List (String × Bool))) (gv 0)) (saC (g1 (isiYD (("BadBook", false) :: ("BadCount", false) :: ("BadCourse", false) :: ("BadDeed", false) :: ("BadEntries", false) :: ("BadFalls", false) :: ("BadFamily", false) :: ("BadHand", false) :: ("BadIndex", false) :: ("BadJournal", false) :: ("BadLeft", false) :: ("BadLog", false) :: ("BadLot", true) :: ("BadMachine", false) :: ("BadPlace", false) :: ("BadPrices", false) :: ("BadQuota", false) :: ("BadRacks", false) :: ("BadRecord", false) :: ("BadRun", false) :: ("BadSpread", false) :: ("BadStages", false) :: ("BadStanding", false) :: ("BadText", false) :: ("BadTold", false) :: ("BadWeights", false) :: ("CutOff", false) :: ("NoLots", false) :: ("NoTalk", false) :: ("NotNewest", false) :: ("NotRight", false) :: ("NothingDone", false) :: ("OtherMachines", false) :: []) [] fun t => List.lookup t ([("NoneType", false), ("bool", false), ("int", false), ("str", false), ("tuple", false), ("list", false), ("dict", false)] : List (String × Bool))) (gv 0)) (saC (g1 (isiYD (("BadBook", false) :: ("BadCount", false) :: ("BadCourse", false) :: ("BadDeed", false) :: ("BadEntries", false) :: ("BadFalls", false) :: ("BadFamily", false) :: ("BadHand", false) :: ("BadIndex", false) :: ("BadJournal", false) :: ("BadLeft", false) :: ("BadLog", false) :: ("BadLot", false) :: ("BadMachine", false) :: ("BadPlace", false) :: ("BadPrices", false) :: ("BadQuota", false) :: ("BadRacks", false) :: ("BadRecord", false) :: ("BadRun", false) :: ("BadSpread", false) :: ("BadStages", false) :: ("BadStanding", false) :: ("BadText", false) :: ("BadTold", false) :: ("BadWeights", true) :: ("CutOff", false) :: ("NoLots", false) :: ("NoTalk", false) :: ("NotNewest", false) :: ("NotRight", false) :: ("NothingDone", false) :: ("OtherMachines", false) :: []) [] fun t => List.lookup t ([("NoneType", false), ("bool", false), ("int", false), ("str", false), ("tuple", false), ("list", false), ("dict", false)] : List (String × Bool))) (gv 0)) sa0)))) (sgN 1)) (sSeq (sAsg (g2 addD (gv 1) (gLst (saC (g1 (isiYD (("BadBook", false) :: ("BadCount", false) :: ("BadCourse", false) :: ("BadDeed", false) :: ("BadEntries", false) :: ("BadFalls", false) :: ("BadFamily", false) :: ("BadHand", false) :: ("BadIndex", false) :: ("BadJournal", false) :: ("BadLeft", false) :: ("BadLog", false) :: ("BadLot", false) :: ("BadMachine", false) :: ("BadPlace", false) :: ("BadPrices", false) :: ("BadQuota", false) :: ("BadRacks", true) :: ("BadRecord", false) :: ("BadRun", false) :: ("BadSpread", false) :: ("BadStages", false) :: ("BadStanding", false) :: ("BadText", false) :: ("BadTold", false) :: ("BadWeights", false) :: ("CutOff", false) :: ("NoLots", false) :: ("NoTalk", false) :: ("NotNewest", false) :: ("NotRight", false) :: ("NothingDone", false) :: ("OtherMachines", false) :: []) [] fun t => List.lookup t ([("NoneType", false), ("bool", false), ("int", false), ("str", false), ("tuple", false), ("list", false), ("dict", false)] : List (String × Bool))) (gv 0)) (saC (g1 (isiYD (("BadBook", false) :: ("BadCount", false) :: ("BadCourse", false) :: ("BadDeed", false) :: ("BadEntries", false) :: ("BadFalls", false) :: ("BadFamily", false) :: ("BadHand", false) :: ("BadIndex", false) :: ("BadJournal", false) :: ("BadLeft", false) :: ("BadLog", true) :: ("BadLot", false) :: ("BadMachine", false) :: ("BadPlace", false) :: ("BadPrices", false) :: ("BadQuota", false) :: ("BadRacks", false) :: ("BadRecord", false) :: ("BadRun", false) :: ("BadSpread", false) :: ("BadStages", false) :: ("BadStanding", false) :: ("BadText", false) :: ("BadTold", false) :: ("BadWeights", false) :: ("CutOff", false) :: ("NoLots", false) :: ("NoTalk", false) :: ("NotNewest", false) :: ("NotRight", false) :: ("NothingDone", false) :: ("OtherMachines", false) :: []) [] fun t => List.lookup t ([("NoneType", false), ("bool", false), ("int", false), ("str", false), ("tuple", false), ("list", false), ("dict", false)] : List (String × Bool))) (gv 0)) (saC (g1 (isiYD (("BadBook", false) :: ("BadCount", false) :: ("BadCourse", false) :: ("BadDeed", false) :: ("BadEntries", false) :: ("BadFalls", false) :: ("BadFamily", false) :: ("BadHand", false) :: ("BadIndex", false) :: ("BadJournal", false) :: ("BadLeft", false) :: ("BadLog", false) :: ("BadLot", false) :: ("BadMachine", false) :: ("BadPlace", false) :: ("BadPrices", false) :: ("BadQuota", false) :: ("BadRacks", false) :: ("BadRecord", true) :: ("BadRun", false) :: ("BadSpread", false) :: ("BadStages", false) :: ("BadStanding", false) :: ("BadText", false) :: ("BadTold", false) :: ("BadWeights", false) :: ("CutOff", false) :: ("NoLots", false) :: ("NoTalk", false) :: ("NotNewest", false) :: ("NotRight", false) :: ("NothingDone", false) :: ("OtherMachines", false) :: []) [] fun t => List.lookup t ([("NoneType", false), ("bool", false), ("int", false), ("str", false), ("tuple", false), ("list", false), ("dict", false)] : List (String × Bool))) (gv 0)) sa0))))) (sgN 1)) (sSeq (sAsg (g2 addD (gv 1) (gLst (saC (g1 (isiYD (("BadBook", false) :: ("BadCount", false) :: ("BadCourse", false) :: ("BadDeed", false) :: ("BadEntries", false) :: ("BadFalls", false) :: ("BadFamily", false) :: ("BadHand", false) :: ("BadIndex", false) :: ("BadJournal", false) :: ("BadLeft", false) :: ("BadLog", false) :: ("BadLot", false) :: ("BadMachine", false) :: ("BadPlace", false) :: ("BadPrices", false) :: ("BadQuota", false) :: ("BadRacks", false) :: ("BadRecord", false) :: ("BadRun", false) :: ("BadSpread", false) :: ("BadStages", false) :: ("BadStanding", true) :: ("BadText", false) :: ("BadTold", false) :: ("BadWeights", false) :: ("CutOff", false) :: ("NoLots", false) :: ("NoTalk", false) :: ("NotNewest", false) :: ("NotRight", false) :: ("NothingDone", false) :: ("OtherMachines", false) :: []) [] fun t => List.lookup t ([("NoneType", false), ("bool", false), ("int", false), ("str", false), ("tuple", false), ("list", false), ("dict", false)] : List (String × Bool))) (gv 0)) (saC (g1 (isiYD (("BadBook", false) :: ("BadCount", false) :: ("BadCourse", false) :: ("BadDeed", false) :: ("BadEntries", false) :: ("BadFalls", false) :: ("BadFamily", false) :: ("BadHand", false) :: ("BadIndex", false) :: ("BadJournal", false) :: ("BadLeft", false) :: ("BadLog", false) :: ("BadLot", false) :: ("BadMachine", false) :: ("BadPlace", false) :: ("BadPrices", false) :: ("BadQuota", false) :: ("BadRacks", false) :: ("BadRecord", false) :: ("BadRun", false) :: ("BadSpread", false) :: ("BadStages", false) :: ("BadStanding", false) :: ("BadText", false) :: ("BadTold", true) :: ("BadWeights", false) :: ("CutOff", false) :: ("NoLots", false) :: ("NoTalk", false) :: ("NotNewest", false) :: ("NotRight", false) :: ("NothingDone", false) :: ("OtherMachines", false) :: []) [] fun t => List.lookup t ([("NoneType", false), ("bool", false), ("int", false), ("str", false), ("tuple", false), ("list", false), ("dict", false)] : List (String × Bool))) (gv 0)) (saC (g1 (isiYD (("BadBook", false) :: ("BadCount", false) :: ("BadCourse", false) :: ("BadDeed", false) :: ("BadEntries", true) :: ("BadFalls", false) :: ("BadFamily", false) :: ("BadHand", false) :: ("BadIndex", false) :: ("BadJournal", false) :: ("BadLeft", false) :: ("BadLog", false) :: ("BadLot", false) :: ("BadMachine", false) :: ("BadPlace", false) :: ("BadPrices", false) :: ("BadQuota", false) :: ("BadRacks", false) :: ("BadRecord", false) :: ("BadRun", false) :: ("BadSpread", false) :: ("BadStages", false) :: ("BadStanding", false) :: ("BadText", false) :: ("BadTold", false) :: ("BadWeights", false) :: ("CutOff", false) :: ("NoLots", false) :: ("NoTalk", false) :: ("NotNewest", false) :: ("NotRight", false) :: ("NothingDone", false) :: ("OtherMachines", false) :: []) [] fun t => List.lookup t ([("NoneType", false), ("bool", false), ("int", false), ("str", false), ("tuple", false), ("list", false), ("dict", false)] : List (String × Bool))) (gv 0)) sa0))))) (sgN 1)) (sSeq (sAsg (g2 addD (gv 1) (gLst (saC (g1 (isiYD (("BadBook", false) :: ("BadCount", false) :: ("BadCourse", false) :: ("BadDeed", false) :: ("BadEntries", false) :: ("BadFalls", false) :: ("BadFamily", false) :: ("BadHand", false) :: ("BadIndex", false) :: ("BadJournal", false) :: ("BadLeft", false) :: ("BadLog", false) :: ("BadLot", false) :: ("BadMachine", false) :: ("BadPlace", false) :: ("BadPrices", true) :: ("BadQuota", false) :: ("BadRacks", false) :: ("BadRecord", false) :: ("BadRun", false) :: ("BadSpread", false) :: ("BadStages", false) :: ("BadStanding", false) :: ("BadText", false) :: ("BadTold", false) :: ("BadWeights", false) :: ("CutOff", false) :: ("NoLots", false) :: ("NoTalk", false) :: ("NotNewest", false) :: ("NotRight", false) :: ("NothingDone", false) :: ("OtherMachines", false) :: []) [] fun t => List.lookup t ([("NoneType", false), ("bool", false), ("int", false), ("str", false), ("tuple", false), ("list", false), ("dict", false)] : List (String × Bool))) (gv 0)) (saC (g1 (isiYD (("BadBook", false) :: ("BadCount", false) :: ("BadCourse", false) :: ("BadDeed", false) :: ("BadEntries", false) :: ("BadFalls", false) :: ("BadFamily", false) :: ("BadHand", false) :: ("BadIndex", false) :: ("BadJournal", false) :: ("BadLeft", false) :: ("BadLog", false) :: ("BadLot", false) :: ("BadMachine", false) :: ("BadPlace", false) :: ("BadPrices", false) :: ("BadQuota", false) :: ("BadRacks", false) :: ("BadRecord", false) :: ("BadRun", false) :: ("BadSpread", false) :: ("BadStages", false) :: ("BadStanding", false) :: ("BadText", false) :: ("BadTold", false) :: ("BadWeights", false) :: ("CutOff", false) :: ("NoLots", false) :: ("NoTalk", false) :: ("NotNewest", false) :: ("NotRight", true) :: ("NothingDone", false) :: ("OtherMachines", false) :: []) [] fun t => List.lookup t ([("NoneType", false), ("bool", false), ("int", false), ("str", false), ("tuple", false), ("list", false), ("dict", false)] : List (String × Bool))) (gv 0)) (saC (g1 (isiYD (("BadBook", false) :: ("BadCount", false) :: ("BadCourse", false) :: ("BadDeed", false) :: ("BadEntries", false) :: ("BadFalls", false) :: ("BadFamily", false) :: ("BadHand", false) :: ("BadIndex", false) :: ("BadJournal", false) :: ("BadLeft", false) :: ("BadLog", false) :: ("BadLot", false) :: ("BadMachine", false) :: ("BadPlace", false) :: ("BadPrices", false) :: ("BadQuota", false) :: ("BadRacks", false) :: ("BadRecord", false) :: ("BadRun", false) :: ("BadSpread", false) :: ("BadStages", false) :: ("BadStanding", false) :: ("BadText", false) :: ("BadTold", false) :: ("BadWeights", false) :: ("CutOff", false) :: ("NoLots", false) :: ("NoTalk", false) :: ("NotNewest", true) :: ("NotRight", false) :: ("NothingDone", false) :: ("OtherMachines", false) :: []) [] fun t => List.lookup t ([("NoneType", false), ("bool", false), ("int", false), ("str", false), ("tuple", false), ("list", false), ("dict", false)] : List (String × Bool))) (gv 0)) sa0))))) (sgN 1)) (sSeq (sAsg (g2 addD (gv 1) (gLst (saC (g1 (isiYD (("BadBook", false) :: ("BadCount", false) :: ("BadCourse", false) :: ("BadDeed", false) :: ("BadEntries", false) :: ("BadFalls", false) :: ("BadFamily", false) :: ("BadHand", false) :: ("BadIndex", false) :: ("BadJournal", false) :: ("BadLeft", false) :: ("BadLog", false) :: ("BadLot", false) :: ("BadMachine", false) :: ("BadPlace", false) :: ("BadPrices", false) :: ("BadQuota", false) :: ("BadRacks", false) :: ("BadRecord", false) :: ("BadRun", true) :: ("BadSpread", false) :: ("BadStages", false) :: ("BadStanding", false) :: ("BadText", false) :: ("BadTold", false) :: ("BadWeights", false) :: ("CutOff", false) :: ("NoLots", false) :: ("NoTalk", false) :: ("NotNewest", false) :: ("NotRight", false) :: ("NothingDone", false) :: ("OtherMachines", false) :: []) [] fun t => List.lookup t ([("NoneType", false), ("bool", false), ("int", false), ("str", false), ("tuple", false), ("list", false), ("dict", false)] : List (String × Bool))) (gv 0)) (saC (g1 (isiYD (("BadBook", false) :: ("BadCount", false) :: ("BadCourse", false) :: ("BadDeed", false) :: ("BadEntries", false) :: ("BadFalls", false) :: ("BadFamily", false) :: ("BadHand", false) :: ("BadIndex", false) :: ("BadJournal", false) :: ("BadLeft", false) :: ("BadLog", false) :: ("BadLot", false) :: ("BadMachine", false) :: ("BadPlace", false) :: ("BadPrices", false) :: ("BadQuota", false) :: ("BadRacks", false) :: ("BadRecord", false) :: ("BadRun", false) :: ("BadSpread", true) :: ("BadStages", false) :: ("BadStanding", false) :: ("BadText", false) :: ("BadTold", false) :: ("BadWeights", false) :: ("CutOff", false) :: ("NoLots", false) :: ("NoTalk", false) :: ("NotNewest", false) :: ("NotRight", false) :: ("NothingDone", false) :: ("OtherMachines", false) :: []) [] fun t => List.lookup t ([("NoneType", false), ("bool", false), ("int", false), ("str", false), ("tuple", false), ("list", false), ("dict", false)] : List (String × Bool))) (gv 0)) (saC (g1 (isiYD (("BadBook", false) :: ("BadCount", false) :: ("BadCourse", false) :: ("BadDeed", false) :: ("BadEntries", false) :: ("BadFalls", false) :: ("BadFamily", false) :: ("BadHand", false) :: ("BadIndex", false) :: ("BadJournal", false) :: ("BadLeft", false) :: ("BadLog", false) :: ("BadLot", false) :: ("BadMachine", false) :: ("BadPlace", false) :: ("BadPrices", false) :: ("BadQuota", false) :: ("BadRacks", false) :: ("BadRecord", false) :: ("BadRun", false) :: ("BadSpread", false) :: ("BadStages", false) :: ("BadStanding", false) :: ("BadText", false) :: ("BadTold", false) :: ("BadWeights", false) :: ("CutOff", false) :: ("NoLots", true) :: ("NoTalk", false) :: ("NotNewest", false) :: ("NotRight", false) :: ("NothingDone", false) :: ("OtherMachines", false) :: []) [] fun t => List.lookup t ([("NoneType", false), ("bool", false), ("int", false), ("str", false), ("tuple", false), ("list", false), ("dict", false)] : List (String × Bool))) (gv 0)) sa0))))) (sgN 1)) (sRet (g2 addD (gv 1) (gLst (saC (g1 (isiYD (("BadBook", false) :: ("BadCount", false) :: ("BadCourse", true) :: ("BadDeed", false) :: ("BadEntries", false) :: ("BadFalls", false) :: ("BadFamily", false) :: ("BadHand", false) :: ("BadIndex", false) :: ("BadJournal", false) :: ("BadLeft", false) :: ("BadLog", false) :: ("BadLot", false) :: ("BadMachine", false) :: ("BadPlace", false) :: ("BadPrices", false) :: ("BadQuota", false) :: ("BadRacks", false) :: ("BadRecord", false) :: ("BadRun", false) :: ("BadSpread", false) :: ("BadStages", false) :: ("BadStanding", false) :: ("BadText", false) :: ("BadTold", false) :: ("BadWeights", false) :: ("CutOff", false) :: ("NoLots", false) :: ("NoTalk", false) :: ("NotNewest", false) :: ("NotRight", false) :: ("NothingDone", false) :: ("OtherMachines", false) :: []) [] fun t => List.lookup t ([("NoneType", false), ("bool", false), ("int", false), ("str", false), ("tuple", false), ("list", false), ("dict", false)] : List (String × Bool))) (gv 0)) (saC (g1 (isiYD (("BadBook", false) :: ("BadCount", false) :: ("BadCourse", false) :: ("BadDeed", false) :: ("BadEntries", false) :: ("BadFalls", false) :: ("BadFamily", false) :: ("BadHand", false) :: ("BadIndex", false) :: ("BadJournal", false) :: ("BadLeft", false) :: ("BadLog", false) :: ("BadLot", false) :: ("BadMachine", false) :: ("BadPlace", false) :: ("BadPrices", false) :: ("BadQuota", false) :: ("BadRacks", false) :: ("BadRecord", false) :: ("BadRun", false) :: ("BadSpread", false) :: ("BadStages", false) :: ("BadStanding", false) :: ("BadText", false) :: ("BadTold", false) :: ("BadWeights", false) :: ("CutOff", false) :: ("NoLots", false) :: ("NoTalk", false) :: ("NotNewest", false) :: ("NotRight", false) :: ("NothingDone", true) :: ("OtherMachines", false) :: []) [] fun t => List.lookup t ([("NoneType", false), ("bool", false), ("int", false), ("str", false), ("tuple", false), ("list", false), ("dict", false)] : List (String × Bool))) (gv 0)) sa0))))))))))
def m_law_last_marks : List D → M D := runB 2 b_law_last_marks
abbrev N_law : List Str := ["_law_script", "_law_draw", "_law_turn", "_law_what", "_law_some", "_law_spot", "_law_error", "_law_k"]
theorem sc_law : FnScope N_law ["_law_script"] (defScope s_law) := ⟨rfl, rfl, rfl, by decide +kernel, rfl, by decide +kernel, by decide +kernel⟩
def b_law : SS := (sSeq (sFor (gItC rng1 (saC (g2 addD (fun _ => ret (.int 1)) (gC min2D (saC (gC lenD (saC (gv 0) sa0)) (saC (fun _ => ret (.int 5)) sa0)))) sa0)) (sgN 2) (sSeq (sAsg (gCall 2 m_law_pick (saC (gv 1) (saC (gLst (saC (fun _ => ret .non) (saC (fun _ => ret (.int 0)) (saC (fun _ => ret (.int 7)) (saC (fun _ => ret (.str "x")) (saC (EK.gTup (saC (fun _ => ret (.int 1)) (saC (fun _ => ret (.int 2)) sa0))) (saC (gLst (saC (fun _ => ret (.int 3)) sa0)) (saC (fun _ => ret (.bl true)) (saC (gDisp [((fun _ => ret (.str "a")), (fun _ => ret (.int 1)))]) (saC (g1 negD (fun _ => ret (.int 1))) (saC (fun _ => ret (.str "")) (saC (gCall 2 m_law_take (saC (gv 1) (saC (g2 powD (fun _ => ret (.int 10)) (fun _ => ret (.int 9))) sa0))) sa0)))))))))))) sa0))) (sgN 3)) (sSeq (sAsg (g2 addD (gCall 1 m_law_with (saC (gv 3) sa0)) (gCall 0 m_law_without sa0)) (sgN 4)) (sSeq (sIf (bOr (tB' (g2 neS (gC reprLX (saC (gCall 1 m_law_told (saC (gv 4) sa0)) sa0)) (gC reprLX (saC (g2 mulD (gLst (saC (gv 3) sa0)) (fun _ => ret (.int 16))) sa0)))) (tB' (g2 neS (gC reprLX (saC (gCall 1 m_law_told (saC (gCall 1 m_law_by_name (saC (gv 3) sa0)) sa0)) sa0)) (gC reprLX (saC (g2 mulD (gLst (saC (gv 3) sa0)) (fun _ => ret (.int 16))) sa0))))) (sRet (fun _ => ret (.bl false))) sNil) (sFor (gItC enumA (saC (gv 4) sa0)) (sgT (sgCons (sgN 5) (sgCons (sgN 6) sgNil))) (sSeq (sIf (bOr (bNot (tB' (g1 (isiYD (("BadBook", true) :: ("BadCount", true) :: ("BadCourse", true) :: ("BadDeed", true) :: ("BadEntries", true) :: ("BadFalls", true) :: ("BadFamily", true) :: ("BadHand", true) :: ("BadIndex", true) :: ("BadJournal", true) :: ("BadLeft", true) :: ("BadLog", true) :: ("BadLot", true) :: ("BadMachine", true) :: ("BadPlace", true) :: ("BadPrices", true) :: ("BadQuota", true) :: ("BadRacks", true) :: ("BadRecord", true) :: ("BadRun", true) :: ("BadSpread", true) :: ("BadStages", true) :: ("BadStanding", true) :: ("BadText", true) :: ("BadTold", true) :: ("BadWeights", true) :: ("CutOff", true) :: ("NoLots", true) :: ("NoTalk", true) :: ("NotNewest", true) :: ("NotRight", true) :: ("NothingDone", true) :: ("OtherMachines", true) :: []) [] fun t => List.lookup t ([("NoneType", false), ("bool", false), ("int", false), ("str", false), ("tuple", false), ("list", false), ("dict", false)] : List (String × Bool))) (gv 6)))) (bNot (tB' (g1 (isiYD (("BadBook", true) :: ("BadCount", true) :: ("BadCourse", true) :: ("BadDeed", true) :: ("BadEntries", true) :: ("BadFalls", true) :: ("BadFamily", true) :: ("BadHand", true) :: ("BadIndex", true) :: ("BadJournal", true) :: ("BadLeft", true) :: ("BadLog", true) :: ("BadLot", true) :: ("BadMachine", true) :: ("BadPlace", true) :: ("BadPrices", true) :: ("BadQuota", true) :: ("BadRacks", true) :: ("BadRecord", true) :: ("BadRun", true) :: ("BadSpread", true) :: ("BadStages", true) :: ("BadStanding", true) :: ("BadText", true) :: ("BadTold", true) :: ("BadWeights", true) :: ("CutOff", true) :: ("NoLots", true) :: ("NoTalk", true) :: ("NotNewest", true) :: ("NotRight", true) :: ("NothingDone", true) :: ("OtherMachines", true) :: []) [] fun t => List.lookup t ([("NoneType", false), ("bool", false), ("int", false), ("str", false), ("tuple", false), ("list", false), ("dict", false)] : List (String × Bool))) (gv 6))))) (sRet (fun _ => ret (.bl false))) sNil) (sSeq (sIf (tB' (g2 neD (g2 addD (gCall 1 m_law_first_marks (saC (gv 6) sa0)) (gCall 1 m_law_last_marks (saC (gv 6) sa0))) (gLO (gLc [7] (gItC rng1 (saC (fun _ => ret (.int 33)) sa0)) (sgN 7) yes (g2 eqD (gv 7) (gv 5)))))) (sRet (fun _ => ret (.bl false))) sNil) (sIf (bAnd (tB' (g2 gtI (gv 5) (fun _ => ret (.int 15)))) (tB' (g2 neD (gC (strMD ["BadCourse", "BadEntries", "BadLog", "BadLot", "BadPrices", "BadRacks", "BadRecord", "BadRun", "BadSpread", "BadStanding", "BadTold", "BadWeights", "NoLots", "NotNewest", "NotRight", "NothingDone", "OtherMachines"]) (saC (gv 6) sa0)) (fun _ => ret (.str "no such thing"))))) (sRet (fun _ => ret (.bl false))) sNil)))))))) (sRet (fun _ => ret (.bl true))))
def m_law : List Int → M D := runL 8 b_law
theorem xtk_BadFamily : ExcTK xd_BadFamily := fun _ _ _ _ _ _ _ _ _ _ _ => .of_eq (by kernel_rfl)
theorem xtk_BadCount : ExcTK xd_BadCount := fun _ _ _ _ _ _ _ _ _ _ _ => .of_eq (by kernel_rfl)
theorem xtk_BadQuota : ExcTK xd_BadQuota := fun _ _ _ _ _ _ _ _ _ _ _ => .of_eq (by kernel_rfl)
theorem xtk_BadHand : ExcTK xd_BadHand := fun _ _ _ _ _ _ _ _ _ _ _ => .of_eq (by kernel_rfl)
theorem xtk_BadBook : ExcTK xd_BadBook := fun _ _ _ _ _ _ _ _ _ _ _ => .of_eq (by kernel_rfl)
theorem xtk_BadMachine : ExcTK xd_BadMachine := fun _ _ _ _ _ _ _ _ _ _ _ => .of_eq (by kernel_rfl)
theorem xtk_BadLeft : ExcTK xd_BadLeft := fun _ _ _ _ _ _ _ _ _ _ _ => .of_eq (by kernel_rfl)
theorem xtk_BadDeed : ExcTK xd_BadDeed := fun _ _ _ _ _ _ _ _ _ _ _ => .of_eq (by kernel_rfl)
theorem xtk_BadFalls : ExcTK xd_BadFalls := fun _ _ _ _ _ _ _ _ _ _ _ => .of_eq (by kernel_rfl)
theorem xtk_BadStages : ExcTK xd_BadStages := fun _ _ _ _ _ _ _ _ _ _ _ => .of_eq (by kernel_rfl)
theorem xtk_BadIndex : ExcTK xd_BadIndex := fun _ _ _ _ _ _ _ _ _ _ _ => .of_eq (by kernel_rfl)
theorem xtk_BadPlace : ExcTK xd_BadPlace := fun _ _ _ _ _ _ _ _ _ _ _ => .of_eq (by kernel_rfl)
theorem xtk_NoTalk : ExcTK xd_NoTalk := fun _ _ _ _ _ _ _ _ _ _ _ => .of_eq (by kernel_rfl)
theorem xtk_CutOff : ExcTK xd_CutOff := fun _ _ _ _ _ _ _ _ _ _ _ => .of_eq (by kernel_rfl)
theorem xtk_BadJournal : ExcTK xd_BadJournal := fun _ _ _ _ _ _ _ _ _ _ _ => .of_eq (by kernel_rfl)
theorem xtk_BadText : ExcTK xd_BadText := fun _ _ _ _ _ _ _ _ _ _ _ => .of_eq (by kernel_rfl)
structure Tx (hp : Heap) (K : PySem.W.Frag) (mg : Str → Option Value) : Prop where
  c : SaysW fa fn fx gt tf xd hp K
  h : ∃ h : Heap, K.In h ∧ h.Ns mainGlobals mg
section
variable {w : World} {hp : Heap} {K : PySem.W.Frag} {mg : Str → Option Value} {base : Heap} (T : Tx hp K mg)
include T
theorem n_abs : mg "abs" = none := by obtain ⟨h, X, G⟩ := T.h; exact He.free_ok X G (T.c.z.y.d.fact 0 (f := .free "abs") rfl)
theorem n_int : mg "int" = none := by obtain ⟨h, X, G⟩ := T.h; exact He.free_ok X G (T.c.z.y.d.fact 1 (f := .free "int") rfl)
theorem g__law_begun : mg "_law_begun" = some (.ref (He.ga K "_law_begun")) := by obtain ⟨h, X, G⟩ := T.h; exact He.glo_ok X G (T.c.z.y.d.fact 2 (f := .glo "_law_begun") rfl)
theorem n_len : mg "len" = none := by obtain ⟨h, X, G⟩ := T.h; exact He.free_ok X G (T.c.z.y.d.fact 3 (f := .free "len") rfl)
theorem n_min : mg "min" = none := by obtain ⟨h, X, G⟩ := T.h; exact He.free_ok X G (T.c.z.y.d.fact 4 (f := .free "min") rfl)
theorem n_range : mg "range" = none := by obtain ⟨h, X, G⟩ := T.h; exact He.free_ok X G (T.c.z.y.d.fact 5 (f := .free "range") rfl)
theorem g__law_mixed : mg "_law_mixed" = some (.ref (He.ga K "_law_mixed")) := by obtain ⟨h, X, G⟩ := T.h; exact He.glo_ok X G (T.c.z.y.d.fact 6 (f := .glo "_law_mixed") rfl)
theorem g__law_take : mg "_law_take" = some (.ref (He.ga K "_law_take")) := by obtain ⟨h, X, G⟩ := T.h; exact He.glo_ok X G (T.c.z.y.d.fact 7 (f := .glo "_law_take") rfl)
theorem g__law_pick : mg "_law_pick" = some (.ref (He.ga K "_law_pick")) := by obtain ⟨h, X, G⟩ := T.h; exact He.glo_ok X G (T.c.z.y.d.fact 8 (f := .glo "_law_pick") rfl)
theorem g_BadFamily : mg "BadFamily" = some (.ref (He.ga K "BadFamily")) := by obtain ⟨h, X, G⟩ := T.h; exact He.glo_ok X G (T.c.z.y.d.fact 9 (f := .glo "BadFamily") rfl)
theorem g_BadCount : mg "BadCount" = some (.ref (He.ga K "BadCount")) := by obtain ⟨h, X, G⟩ := T.h; exact He.glo_ok X G (T.c.z.y.d.fact 10 (f := .glo "BadCount") rfl)
theorem g_BadQuota : mg "BadQuota" = some (.ref (He.ga K "BadQuota")) := by obtain ⟨h, X, G⟩ := T.h; exact He.glo_ok X G (T.c.z.y.d.fact 11 (f := .glo "BadQuota") rfl)
theorem g_BadHand : mg "BadHand" = some (.ref (He.ga K "BadHand")) := by obtain ⟨h, X, G⟩ := T.h; exact He.glo_ok X G (T.c.z.y.d.fact 12 (f := .glo "BadHand") rfl)
theorem g_BadBook : mg "BadBook" = some (.ref (He.ga K "BadBook")) := by obtain ⟨h, X, G⟩ := T.h; exact He.glo_ok X G (T.c.z.y.d.fact 13 (f := .glo "BadBook") rfl)
theorem g_BadMachine : mg "BadMachine" = some (.ref (He.ga K "BadMachine")) := by obtain ⟨h, X, G⟩ := T.h; exact He.glo_ok X G (T.c.z.y.d.fact 14 (f := .glo "BadMachine") rfl)
theorem g_BadLeft : mg "BadLeft" = some (.ref (He.ga K "BadLeft")) := by obtain ⟨h, X, G⟩ := T.h; exact He.glo_ok X G (T.c.z.y.d.fact 15 (f := .glo "BadLeft") rfl)
theorem g_BadDeed : mg "BadDeed" = some (.ref (He.ga K "BadDeed")) := by obtain ⟨h, X, G⟩ := T.h; exact He.glo_ok X G (T.c.z.y.d.fact 16 (f := .glo "BadDeed") rfl)
theorem g_BadFalls : mg "BadFalls" = some (.ref (He.ga K "BadFalls")) := by obtain ⟨h, X, G⟩ := T.h; exact He.glo_ok X G (T.c.z.y.d.fact 17 (f := .glo "BadFalls") rfl)
theorem g_BadStages : mg "BadStages" = some (.ref (He.ga K "BadStages")) := by obtain ⟨h, X, G⟩ := T.h; exact He.glo_ok X G (T.c.z.y.d.fact 18 (f := .glo "BadStages") rfl)
theorem g_BadIndex : mg "BadIndex" = some (.ref (He.ga K "BadIndex")) := by obtain ⟨h, X, G⟩ := T.h; exact He.glo_ok X G (T.c.z.y.d.fact 19 (f := .glo "BadIndex") rfl)
theorem g_BadPlace : mg "BadPlace" = some (.ref (He.ga K "BadPlace")) := by obtain ⟨h, X, G⟩ := T.h; exact He.glo_ok X G (T.c.z.y.d.fact 20 (f := .glo "BadPlace") rfl)
theorem g_NoTalk : mg "NoTalk" = some (.ref (He.ga K "NoTalk")) := by obtain ⟨h, X, G⟩ := T.h; exact He.glo_ok X G (T.c.z.y.d.fact 21 (f := .glo "NoTalk") rfl)
theorem g_CutOff : mg "CutOff" = some (.ref (He.ga K "CutOff")) := by obtain ⟨h, X, G⟩ := T.h; exact He.glo_ok X G (T.c.z.y.d.fact 22 (f := .glo "CutOff") rfl)
theorem g_BadJournal : mg "BadJournal" = some (.ref (He.ga K "BadJournal")) := by obtain ⟨h, X, G⟩ := T.h; exact He.glo_ok X G (T.c.z.y.d.fact 23 (f := .glo "BadJournal") rfl)
theorem g_BadText : mg "BadText" = some (.ref (He.ga K "BadText")) := by obtain ⟨h, X, G⟩ := T.h; exact He.glo_ok X G (T.c.z.y.d.fact 24 (f := .glo "BadText") rfl)
theorem g__law_with : mg "_law_with" = some (.ref (He.ga K "_law_with")) := by obtain ⟨h, X, G⟩ := T.h; exact He.glo_ok X G (T.c.z.y.d.fact 25 (f := .glo "_law_with") rfl)
theorem g_OtherMachines : mg "OtherMachines" = some (.ref (He.ga K "OtherMachines")) := by obtain ⟨h, X, G⟩ := T.h; exact He.glo_ok X G (T.c.z.y.d.fact 26 (f := .glo "OtherMachines") rfl)
theorem g_BadLot : mg "BadLot" = some (.ref (He.ga K "BadLot")) := by obtain ⟨h, X, G⟩ := T.h; exact He.glo_ok X G (T.c.z.y.d.fact 28 (f := .glo "BadLot") rfl)
theorem g_BadWeights : mg "BadWeights" = some (.ref (He.ga K "BadWeights")) := by obtain ⟨h, X, G⟩ := T.h; exact He.glo_ok X G (T.c.z.y.d.fact 30 (f := .glo "BadWeights") rfl)
theorem g_BadRacks : mg "BadRacks" = some (.ref (He.ga K "BadRacks")) := by obtain ⟨h, X, G⟩ := T.h; exact He.glo_ok X G (T.c.z.y.d.fact 32 (f := .glo "BadRacks") rfl)
theorem g_BadLog : mg "BadLog" = some (.ref (He.ga K "BadLog")) := by obtain ⟨h, X, G⟩ := T.h; exact He.glo_ok X G (T.c.z.y.d.fact 34 (f := .glo "BadLog") rfl)
theorem g_BadRecord : mg "BadRecord" = some (.ref (He.ga K "BadRecord")) := by obtain ⟨h, X, G⟩ := T.h; exact He.glo_ok X G (T.c.z.y.d.fact 36 (f := .glo "BadRecord") rfl)
theorem g_BadStanding : mg "BadStanding" = some (.ref (He.ga K "BadStanding")) := by obtain ⟨h, X, G⟩ := T.h; exact He.glo_ok X G (T.c.z.y.d.fact 38 (f := .glo "BadStanding") rfl)
theorem g_BadTold : mg "BadTold" = some (.ref (He.ga K "BadTold")) := by obtain ⟨h, X, G⟩ := T.h; exact He.glo_ok X G (T.c.z.y.d.fact 40 (f := .glo "BadTold") rfl)
theorem g_BadEntries : mg "BadEntries" = some (.ref (He.ga K "BadEntries")) := by obtain ⟨h, X, G⟩ := T.h; exact He.glo_ok X G (T.c.z.y.d.fact 42 (f := .glo "BadEntries") rfl)
theorem g_BadPrices : mg "BadPrices" = some (.ref (He.ga K "BadPrices")) := by obtain ⟨h, X, G⟩ := T.h; exact He.glo_ok X G (T.c.z.y.d.fact 44 (f := .glo "BadPrices") rfl)
theorem g_NotRight : mg "NotRight" = some (.ref (He.ga K "NotRight")) := by obtain ⟨h, X, G⟩ := T.h; exact He.glo_ok X G (T.c.z.y.d.fact 46 (f := .glo "NotRight") rfl)
theorem g_NotNewest : mg "NotNewest" = some (.ref (He.ga K "NotNewest")) := by obtain ⟨h, X, G⟩ := T.h; exact He.glo_ok X G (T.c.z.y.d.fact 48 (f := .glo "NotNewest") rfl)
theorem g_BadRun : mg "BadRun" = some (.ref (He.ga K "BadRun")) := by obtain ⟨h, X, G⟩ := T.h; exact He.glo_ok X G (T.c.z.y.d.fact 50 (f := .glo "BadRun") rfl)
theorem g_BadSpread : mg "BadSpread" = some (.ref (He.ga K "BadSpread")) := by obtain ⟨h, X, G⟩ := T.h; exact He.glo_ok X G (T.c.z.y.d.fact 52 (f := .glo "BadSpread") rfl)
theorem g_NoLots : mg "NoLots" = some (.ref (He.ga K "NoLots")) := by obtain ⟨h, X, G⟩ := T.h; exact He.glo_ok X G (T.c.z.y.d.fact 54 (f := .glo "NoLots") rfl)
theorem g_BadCourse : mg "BadCourse" = some (.ref (He.ga K "BadCourse")) := by obtain ⟨h, X, G⟩ := T.h; exact He.glo_ok X G (T.c.z.y.d.fact 56 (f := .glo "BadCourse") rfl)
theorem g_NothingDone : mg "NothingDone" = some (.ref (He.ga K "NothingDone")) := by obtain ⟨h, X, G⟩ := T.h; exact He.glo_ok X G (T.c.z.y.d.fact 58 (f := .glo "NothingDone") rfl)
theorem g__law_without : mg "_law_without" = some (.ref (He.ga K "_law_without")) := by obtain ⟨h, X, G⟩ := T.h; exact He.glo_ok X G (T.c.z.y.d.fact 60 (f := .glo "_law_without") rfl)
theorem g__law_told : mg "_law_told" = some (.ref (He.ga K "_law_told")) := by obtain ⟨h, X, G⟩ := T.h; exact He.glo_ok X G (T.c.z.y.d.fact 77 (f := .glo "_law_told") rfl)
theorem n_repr : mg "repr" = none := by obtain ⟨h, X, G⟩ := T.h; exact He.free_ok X G (T.c.z.y.d.fact 78 (f := .free "repr") rfl)
theorem g__law_by_name : mg "_law_by_name" = some (.ref (He.ga K "_law_by_name")) := by obtain ⟨h, X, G⟩ := T.h; exact He.glo_ok X G (T.c.z.y.d.fact 79 (f := .glo "_law_by_name") rfl)
theorem n_enumerate : mg "enumerate" = none := by obtain ⟨h, X, G⟩ := T.h; exact He.free_ok X G (T.c.z.y.d.fact 80 (f := .free "enumerate") rfl)
theorem g_KeepError : mg "KeepError" = some (.ref (He.ga K "KeepError")) := by obtain ⟨h, X, G⟩ := T.h; exact He.glo_ok X G (T.c.z.y.d.fact 81 (f := .glo "KeepError") rfl)
theorem n_isinstance : mg "isinstance" = none := by obtain ⟨h, X, G⟩ := T.h; exact He.free_ok X G (T.c.z.y.d.fact 82 (f := .free "isinstance") rfl)
theorem n_ValueError : mg "ValueError" = none := by obtain ⟨h, X, G⟩ := T.h; exact He.free_ok X G (T.c.z.y.d.fact 83 (f := .free "ValueError") rfl)
theorem g__law_first_marks : mg "_law_first_marks" = some (.ref (He.ga K "_law_first_marks")) := by obtain ⟨h, X, G⟩ := T.h; exact He.glo_ok X G (T.c.z.y.d.fact 84 (f := .glo "_law_first_marks") rfl)
theorem g__law_last_marks : mg "_law_last_marks" = some (.ref (He.ga K "_law_last_marks")) := by obtain ⟨h, X, G⟩ := T.h; exact He.glo_ok X G (T.c.z.y.d.fact 85 (f := .glo "_law_last_marks") rfl)
theorem n_str : mg "str" = none := by obtain ⟨h, X, G⟩ := T.h; exact He.free_ok X G (T.c.z.y.d.fact 86 (f := .free "str") rfl)
theorem g_law : mg "law" = some (.ref (He.ga K "law")) := by obtain ⟨h, X, G⟩ := T.h; exact He.glo_ok X G (T.c.z.y.d.fact 87 (f := .glo "law") rfl)
theorem x_0 : (Fx.xcl "BadStages").ok K = true := T.c.z.y.fact 0 (f := .xcl "BadStages") rfl
theorem x_1 : (Fx.xcl "BadHand").ok K = true := T.c.z.y.fact 1 (f := .xcl "BadHand") rfl
theorem x_2 : (Fx.xcl "BadFamily").ok K = true := T.c.z.y.fact 2 (f := .xcl "BadFamily") rfl
theorem x_3 : (Fx.xcl "BadBook").ok K = true := T.c.z.y.fact 3 (f := .xcl "BadBook") rfl
theorem x_4 : (Fx.xcl "BadCount").ok K = true := T.c.z.y.fact 4 (f := .xcl "BadCount") rfl
theorem x_5 : (Fx.xcl "BadQuota").ok K = true := T.c.z.y.fact 5 (f := .xcl "BadQuota") rfl
theorem x_6 : (Fx.xcl "BadMachine").ok K = true := T.c.z.y.fact 6 (f := .xcl "BadMachine") rfl
theorem x_7 : (Fx.xcl "BadLeft").ok K = true := T.c.z.y.fact 7 (f := .xcl "BadLeft") rfl
theorem x_8 : (Fx.xcl "BadJournal").ok K = true := T.c.z.y.fact 8 (f := .xcl "BadJournal") rfl
theorem x_9 : (Fx.xcl "BadDeed").ok K = true := T.c.z.y.fact 9 (f := .xcl "BadDeed") rfl
theorem x_10 : (Fx.xcl "BadFalls").ok K = true := T.c.z.y.fact 10 (f := .xcl "BadFalls") rfl
theorem x_11 : (Fx.xcl "BadIndex").ok K = true := T.c.z.y.fact 11 (f := .xcl "BadIndex") rfl
theorem x_12 : (Fx.xcl "CutOff").ok K = true := T.c.z.y.fact 12 (f := .xcl "CutOff") rfl
theorem x_13 : (Fx.xcl "BadPlace").ok K = true := T.c.z.y.fact 13 (f := .xcl "BadPlace") rfl
theorem x_14 : (Fx.xcl "NoTalk").ok K = true := T.c.z.y.fact 14 (f := .xcl "NoTalk") rfl
theorem x_15 : (Fx.xcl "BadText").ok K = true := T.c.z.y.fact 15 (f := .xcl "BadText") rfl
theorem x_16 : (Fx.sysd).ok K = true := T.c.z.y.fact 16 (f := .sysd) rfl
theorem x_17 : (Fx.kits (.own "KeepError") [("NoneType", false), ("bool", false), ("int", false), ("str", false), ("tuple", false), ("list", false), ("dict", false)]).ok K = true := T.c.z.y.fact 17 (f := .kits (.own "KeepError") [("NoneType", false), ("bool", false), ("int", false), ("str", false), ("tuple", false), ("list", false), ("dict", false)]) rfl
theorem x_18 : (Fx.xis "OtherMachines" (.own "KeepError") true).ok K = true := T.c.z.y.fact 18 (f := .xis "OtherMachines" (.own "KeepError") true) rfl
theorem x_19 : (Fx.xcl "OtherMachines").ok K = true := T.c.z.y.fact 19 (f := .xcl "OtherMachines") rfl
theorem x_20 : (Fx.xis "NothingDone" (.own "KeepError") true).ok K = true := T.c.z.y.fact 20 (f := .xis "NothingDone" (.own "KeepError") true) rfl
theorem x_21 : (Fx.xcl "NothingDone").ok K = true := T.c.z.y.fact 21 (f := .xcl "NothingDone") rfl
theorem x_22 : (Fx.xis "NotRight" (.own "KeepError") true).ok K = true := T.c.z.y.fact 22 (f := .xis "NotRight" (.own "KeepError") true) rfl
theorem x_23 : (Fx.xcl "NotRight").ok K = true := T.c.z.y.fact 23 (f := .xcl "NotRight") rfl
theorem x_24 : (Fx.xis "NotNewest" (.own "KeepError") true).ok K = true := T.c.z.y.fact 24 (f := .xis "NotNewest" (.own "KeepError") true) rfl
theorem x_25 : (Fx.xcl "NotNewest").ok K = true := T.c.z.y.fact 25 (f := .xcl "NotNewest") rfl
theorem x_26 : (Fx.xis "NoTalk" (.own "KeepError") true).ok K = true := T.c.z.y.fact 26 (f := .xis "NoTalk" (.own "KeepError") true) rfl
theorem x_27 : (Fx.xis "NoLots" (.own "KeepError") true).ok K = true := T.c.z.y.fact 27 (f := .xis "NoLots" (.own "KeepError") true) rfl
theorem x_28 : (Fx.xcl "NoLots").ok K = true := T.c.z.y.fact 28 (f := .xcl "NoLots") rfl
theorem x_29 : (Fx.xis "CutOff" (.own "KeepError") true).ok K = true := T.c.z.y.fact 29 (f := .xis "CutOff" (.own "KeepError") true) rfl
theorem x_30 : (Fx.xis "BadWeights" (.own "KeepError") true).ok K = true := T.c.z.y.fact 30 (f := .xis "BadWeights" (.own "KeepError") true) rfl
theorem x_31 : (Fx.xcl "BadWeights").ok K = true := T.c.z.y.fact 31 (f := .xcl "BadWeights") rfl
theorem x_32 : (Fx.xis "BadTold" (.own "KeepError") true).ok K = true := T.c.z.y.fact 32 (f := .xis "BadTold" (.own "KeepError") true) rfl
theorem x_33 : (Fx.xcl "BadTold").ok K = true := T.c.z.y.fact 33 (f := .xcl "BadTold") rfl
theorem x_34 : (Fx.xis "BadText" (.own "KeepError") true).ok K = true := T.c.z.y.fact 34 (f := .xis "BadText" (.own "KeepError") true) rfl
theorem x_35 : (Fx.xis "BadStanding" (.own "KeepError") true).ok K = true := T.c.z.y.fact 35 (f := .xis "BadStanding" (.own "KeepError") true) rfl
theorem x_36 : (Fx.xcl "BadStanding").ok K = true := T.c.z.y.fact 36 (f := .xcl "BadStanding") rfl
theorem x_37 : (Fx.xis "BadStages" (.own "KeepError") true).ok K = true := T.c.z.y.fact 37 (f := .xis "BadStages" (.own "KeepError") true) rfl
theorem x_38 : (Fx.xis "BadSpread" (.own "KeepError") true).ok K = true := T.c.z.y.fact 38 (f := .xis "BadSpread" (.own "KeepError") true) rfl
theorem x_39 : (Fx.xcl "BadSpread").ok K = true := T.c.z.y.fact 39 (f := .xcl "BadSpread") rfl
theorem x_40 : (Fx.xis "BadRun" (.own "KeepError") true).ok K = true := T.c.z.y.fact 40 (f := .xis "BadRun" (.own "KeepError") true) rfl
theorem x_41 : (Fx.xcl "BadRun").ok K = true := T.c.z.y.fact 41 (f := .xcl "BadRun") rfl
theorem x_42 : (Fx.xis "BadRecord" (.own "KeepError") true).ok K = true := T.c.z.y.fact 42 (f := .xis "BadRecord" (.own "KeepError") true) rfl
theorem x_43 : (Fx.xcl "BadRecord").ok K = true := T.c.z.y.fact 43 (f := .xcl "BadRecord") rfl
theorem x_44 : (Fx.xis "BadRacks" (.own "KeepError") true).ok K = true := T.c.z.y.fact 44 (f := .xis "BadRacks" (.own "KeepError") true) rfl
theorem x_45 : (Fx.xcl "BadRacks").ok K = true := T.c.z.y.fact 45 (f := .xcl "BadRacks") rfl
theorem x_46 : (Fx.xis "BadQuota" (.own "KeepError") true).ok K = true := T.c.z.y.fact 46 (f := .xis "BadQuota" (.own "KeepError") true) rfl
theorem x_47 : (Fx.xis "BadPrices" (.own "KeepError") true).ok K = true := T.c.z.y.fact 47 (f := .xis "BadPrices" (.own "KeepError") true) rfl
theorem x_48 : (Fx.xcl "BadPrices").ok K = true := T.c.z.y.fact 48 (f := .xcl "BadPrices") rfl
theorem x_49 : (Fx.xis "BadPlace" (.own "KeepError") true).ok K = true := T.c.z.y.fact 49 (f := .xis "BadPlace" (.own "KeepError") true) rfl
theorem x_50 : (Fx.xis "BadMachine" (.own "KeepError") true).ok K = true := T.c.z.y.fact 50 (f := .xis "BadMachine" (.own "KeepError") true) rfl
theorem x_51 : (Fx.xis "BadLot" (.own "KeepError") true).ok K = true := T.c.z.y.fact 51 (f := .xis "BadLot" (.own "KeepError") true) rfl
theorem x_52 : (Fx.xcl "BadLot").ok K = true := T.c.z.y.fact 52 (f := .xcl "BadLot") rfl
theorem x_53 : (Fx.xis "BadLog" (.own "KeepError") true).ok K = true := T.c.z.y.fact 53 (f := .xis "BadLog" (.own "KeepError") true) rfl
theorem x_54 : (Fx.xcl "BadLog").ok K = true := T.c.z.y.fact 54 (f := .xcl "BadLog") rfl
theorem x_55 : (Fx.xis "BadLeft" (.own "KeepError") true).ok K = true := T.c.z.y.fact 55 (f := .xis "BadLeft" (.own "KeepError") true) rfl
theorem x_56 : (Fx.xis "BadJournal" (.own "KeepError") true).ok K = true := T.c.z.y.fact 56 (f := .xis "BadJournal" (.own "KeepError") true) rfl
theorem x_57 : (Fx.xis "BadIndex" (.own "KeepError") true).ok K = true := T.c.z.y.fact 57 (f := .xis "BadIndex" (.own "KeepError") true) rfl
theorem x_58 : (Fx.xis "BadHand" (.own "KeepError") true).ok K = true := T.c.z.y.fact 58 (f := .xis "BadHand" (.own "KeepError") true) rfl
theorem x_59 : (Fx.xis "BadFamily" (.own "KeepError") true).ok K = true := T.c.z.y.fact 59 (f := .xis "BadFamily" (.own "KeepError") true) rfl
theorem x_60 : (Fx.xis "BadFalls" (.own "KeepError") true).ok K = true := T.c.z.y.fact 60 (f := .xis "BadFalls" (.own "KeepError") true) rfl
theorem x_61 : (Fx.xis "BadEntries" (.own "KeepError") true).ok K = true := T.c.z.y.fact 61 (f := .xis "BadEntries" (.own "KeepError") true) rfl
theorem x_62 : (Fx.xcl "BadEntries").ok K = true := T.c.z.y.fact 62 (f := .xcl "BadEntries") rfl
theorem x_63 : (Fx.xis "BadDeed" (.own "KeepError") true).ok K = true := T.c.z.y.fact 63 (f := .xis "BadDeed" (.own "KeepError") true) rfl
theorem x_64 : (Fx.xis "BadCourse" (.own "KeepError") true).ok K = true := T.c.z.y.fact 64 (f := .xis "BadCourse" (.own "KeepError") true) rfl
theorem x_65 : (Fx.xcl "BadCourse").ok K = true := T.c.z.y.fact 65 (f := .xcl "BadCourse") rfl
theorem x_66 : (Fx.xis "BadCount" (.own "KeepError") true).ok K = true := T.c.z.y.fact 66 (f := .xis "BadCount" (.own "KeepError") true) rfl
theorem x_67 : (Fx.xis "BadBook" (.own "KeepError") true).ok K = true := T.c.z.y.fact 67 (f := .xis "BadBook" (.own "KeepError") true) rfl
theorem x_68 : (Fx.kits (.blt "ValueError") [("NoneType", false), ("bool", false), ("int", false), ("str", false), ("tuple", false), ("list", false), ("dict", false)]).ok K = true := T.c.z.y.fact 68 (f := .kits (.blt "ValueError") [("NoneType", false), ("bool", false), ("int", false), ("str", false), ("tuple", false), ("list", false), ("dict", false)]) rfl
theorem x_69 : (Fx.xis "OtherMachines" (.blt "ValueError") true).ok K = true := T.c.z.y.fact 69 (f := .xis "OtherMachines" (.blt "ValueError") true) rfl
theorem x_70 : (Fx.xis "NothingDone" (.blt "ValueError") true).ok K = true := T.c.z.y.fact 70 (f := .xis "NothingDone" (.blt "ValueError") true) rfl
theorem x_71 : (Fx.xis "NotRight" (.blt "ValueError") true).ok K = true := T.c.z.y.fact 71 (f := .xis "NotRight" (.blt "ValueError") true) rfl
theorem x_72 : (Fx.xis "NotNewest" (.blt "ValueError") true).ok K = true := T.c.z.y.fact 72 (f := .xis "NotNewest" (.blt "ValueError") true) rfl
theorem x_73 : (Fx.xis "NoTalk" (.blt "ValueError") true).ok K = true := T.c.z.y.fact 73 (f := .xis "NoTalk" (.blt "ValueError") true) rfl
theorem x_74 : (Fx.xis "NoLots" (.blt "ValueError") true).ok K = true := T.c.z.y.fact 74 (f := .xis "NoLots" (.blt "ValueError") true) rfl
theorem x_75 : (Fx.xis "CutOff" (.blt "ValueError") true).ok K = true := T.c.z.y.fact 75 (f := .xis "CutOff" (.blt "ValueError") true) rfl
theorem x_76 : (Fx.xis "BadWeights" (.blt "ValueError") true).ok K = true := T.c.z.y.fact 76 (f := .xis "BadWeights" (.blt "ValueError") true) rfl
theorem x_77 : (Fx.xis "BadTold" (.blt "ValueError") true).ok K = true := T.c.z.y.fact 77 (f := .xis "BadTold" (.blt "ValueError") true) rfl
theorem x_78 : (Fx.xis "BadText" (.blt "ValueError") true).ok K = true := T.c.z.y.fact 78 (f := .xis "BadText" (.blt "ValueError") true) rfl
theorem x_79 : (Fx.xis "BadStanding" (.blt "ValueError") true).ok K = true := T.c.z.y.fact 79 (f := .xis "BadStanding" (.blt "ValueError") true) rfl
theorem x_80 : (Fx.xis "BadStages" (.blt "ValueError") true).ok K = true := T.c.z.y.fact 80 (f := .xis "BadStages" (.blt "ValueError") true) rfl
theorem x_81 : (Fx.xis "BadSpread" (.blt "ValueError") true).ok K = true := T.c.z.y.fact 81 (f := .xis "BadSpread" (.blt "ValueError") true) rfl
theorem x_82 : (Fx.xis "BadRun" (.blt "ValueError") true).ok K = true := T.c.z.y.fact 82 (f := .xis "BadRun" (.blt "ValueError") true) rfl
theorem x_83 : (Fx.xis "BadRecord" (.blt "ValueError") true).ok K = true := T.c.z.y.fact 83 (f := .xis "BadRecord" (.blt "ValueError") true) rfl
theorem x_84 : (Fx.xis "BadRacks" (.blt "ValueError") true).ok K = true := T.c.z.y.fact 84 (f := .xis "BadRacks" (.blt "ValueError") true) rfl
theorem x_85 : (Fx.xis "BadQuota" (.blt "ValueError") true).ok K = true := T.c.z.y.fact 85 (f := .xis "BadQuota" (.blt "ValueError") true) rfl
theorem x_86 : (Fx.xis "BadPrices" (.blt "ValueError") true).ok K = true := T.c.z.y.fact 86 (f := .xis "BadPrices" (.blt "ValueError") true) rfl
theorem x_87 : (Fx.xis "BadPlace" (.blt "ValueError") true).ok K = true := T.c.z.y.fact 87 (f := .xis "BadPlace" (.blt "ValueError") true) rfl
theorem x_88 : (Fx.xis "BadMachine" (.blt "ValueError") true).ok K = true := T.c.z.y.fact 88 (f := .xis "BadMachine" (.blt "ValueError") true) rfl
theorem x_89 : (Fx.xis "BadLot" (.blt "ValueError") true).ok K = true := T.c.z.y.fact 89 (f := .xis "BadLot" (.blt "ValueError") true) rfl
theorem x_90 : (Fx.xis "BadLog" (.blt "ValueError") true).ok K = true := T.c.z.y.fact 90 (f := .xis "BadLog" (.blt "ValueError") true) rfl
theorem x_91 : (Fx.xis "BadLeft" (.blt "ValueError") true).ok K = true := T.c.z.y.fact 91 (f := .xis "BadLeft" (.blt "ValueError") true) rfl
theorem x_92 : (Fx.xis "BadJournal" (.blt "ValueError") true).ok K = true := T.c.z.y.fact 92 (f := .xis "BadJournal" (.blt "ValueError") true) rfl
theorem x_93 : (Fx.xis "BadIndex" (.blt "ValueError") true).ok K = true := T.c.z.y.fact 93 (f := .xis "BadIndex" (.blt "ValueError") true) rfl
theorem x_94 : (Fx.xis "BadHand" (.blt "ValueError") true).ok K = true := T.c.z.y.fact 94 (f := .xis "BadHand" (.blt "ValueError") true) rfl
theorem x_95 : (Fx.xis "BadFamily" (.blt "ValueError") true).ok K = true := T.c.z.y.fact 95 (f := .xis "BadFamily" (.blt "ValueError") true) rfl
theorem x_96 : (Fx.xis "BadFalls" (.blt "ValueError") true).ok K = true := T.c.z.y.fact 96 (f := .xis "BadFalls" (.blt "ValueError") true) rfl
theorem x_97 : (Fx.xis "BadEntries" (.blt "ValueError") true).ok K = true := T.c.z.y.fact 97 (f := .xis "BadEntries" (.blt "ValueError") true) rfl
theorem x_98 : (Fx.xis "BadDeed" (.blt "ValueError") true).ok K = true := T.c.z.y.fact 98 (f := .xis "BadDeed" (.blt "ValueError") true) rfl
theorem x_99 : (Fx.xis "BadCourse" (.blt "ValueError") true).ok K = true := T.c.z.y.fact 99 (f := .xis "BadCourse" (.blt "ValueError") true) rfl
theorem x_100 : (Fx.xis "BadCount" (.blt "ValueError") true).ok K = true := T.c.z.y.fact 100 (f := .xis "BadCount" (.blt "ValueError") true) rfl
theorem x_101 : (Fx.xis "BadBook" (.blt "ValueError") true).ok K = true := T.c.z.y.fact 101 (f := .xis "BadBook" (.blt "ValueError") true) rfl
theorem x_102 : (Fx.kits (.own "BadFamily") [("NoneType", false), ("bool", false), ("int", false), ("str", false), ("tuple", false), ("list", false), ("dict", false)]).ok K = true := T.c.z.y.fact 102 (f := .kits (.own "BadFamily") [("NoneType", false), ("bool", false), ("int", false), ("str", false), ("tuple", false), ("list", false), ("dict", false)]) rfl
theorem x_103 : (Fx.xis "OtherMachines" (.own "BadFamily") false).ok K = true := T.c.z.y.fact 103 (f := .xis "OtherMachines" (.own "BadFamily") false) rfl
theorem x_104 : (Fx.xis "NothingDone" (.own "BadFamily") false).ok K = true := T.c.z.y.fact 104 (f := .xis "NothingDone" (.own "BadFamily") false) rfl
theorem x_105 : (Fx.xis "NotRight" (.own "BadFamily") false).ok K = true := T.c.z.y.fact 105 (f := .xis "NotRight" (.own "BadFamily") false) rfl
theorem x_106 : (Fx.xis "NotNewest" (.own "BadFamily") false).ok K = true := T.c.z.y.fact 106 (f := .xis "NotNewest" (.own "BadFamily") false) rfl
theorem x_107 : (Fx.xis "NoTalk" (.own "BadFamily") false).ok K = true := T.c.z.y.fact 107 (f := .xis "NoTalk" (.own "BadFamily") false) rfl
theorem x_108 : (Fx.xis "NoLots" (.own "BadFamily") false).ok K = true := T.c.z.y.fact 108 (f := .xis "NoLots" (.own "BadFamily") false) rfl
theorem x_109 : (Fx.xis "CutOff" (.own "BadFamily") false).ok K = true := T.c.z.y.fact 109 (f := .xis "CutOff" (.own "BadFamily") false) rfl
theorem x_110 : (Fx.xis "BadWeights" (.own "BadFamily") false).ok K = true := T.c.z.y.fact 110 (f := .xis "BadWeights" (.own "BadFamily") false) rfl
theorem x_111 : (Fx.xis "BadTold" (.own "BadFamily") false).ok K = true := T.c.z.y.fact 111 (f := .xis "BadTold" (.own "BadFamily") false) rfl
theorem x_112 : (Fx.xis "BadText" (.own "BadFamily") false).ok K = true := T.c.z.y.fact 112 (f := .xis "BadText" (.own "BadFamily") false) rfl
theorem x_113 : (Fx.xis "BadStanding" (.own "BadFamily") false).ok K = true := T.c.z.y.fact 113 (f := .xis "BadStanding" (.own "BadFamily") false) rfl
theorem x_114 : (Fx.xis "BadStages" (.own "BadFamily") false).ok K = true := T.c.z.y.fact 114 (f := .xis "BadStages" (.own "BadFamily") false) rfl
theorem x_115 : (Fx.xis "BadSpread" (.own "BadFamily") false).ok K = true := T.c.z.y.fact 115 (f := .xis "BadSpread" (.own "BadFamily") false) rfl
theorem x_116 : (Fx.xis "BadRun" (.own "BadFamily") false).ok K = true := T.c.z.y.fact 116 (f := .xis "BadRun" (.own "BadFamily") false) rfl
theorem x_117 : (Fx.xis "BadRecord" (.own "BadFamily") false).ok K = true := T.c.z.y.fact 117 (f := .xis "BadRecord" (.own "BadFamily") false) rfl
theorem x_118 : (Fx.xis "BadRacks" (.own "BadFamily") false).ok K = true := T.c.z.y.fact 118 (f := .xis "BadRacks" (.own "BadFamily") false) rfl
theorem x_119 : (Fx.xis "BadQuota" (.own "BadFamily") false).ok K = true := T.c.z.y.fact 119 (f := .xis "BadQuota" (.own "BadFamily") false) rfl
theorem x_120 : (Fx.xis "BadPrices" (.own "BadFamily") false).ok K = true := T.c.z.y.fact 120 (f := .xis "BadPrices" (.own "BadFamily") false) rfl
theorem x_121 : (Fx.xis "BadPlace" (.own "BadFamily") false).ok K = true := T.c.z.y.fact 121 (f := .xis "BadPlace" (.own "BadFamily") false) rfl
theorem x_122 : (Fx.xis "BadMachine" (.own "BadFamily") false).ok K = true := T.c.z.y.fact 122 (f := .xis "BadMachine" (.own "BadFamily") false) rfl
theorem x_123 : (Fx.xis "BadLot" (.own "BadFamily") false).ok K = true := T.c.z.y.fact 123 (f := .xis "BadLot" (.own "BadFamily") false) rfl
theorem x_124 : (Fx.xis "BadLog" (.own "BadFamily") false).ok K = true := T.c.z.y.fact 124 (f := .xis "BadLog" (.own "BadFamily") false) rfl
theorem x_125 : (Fx.xis "BadLeft" (.own "BadFamily") false).ok K = true := T.c.z.y.fact 125 (f := .xis "BadLeft" (.own "BadFamily") false) rfl
theorem x_126 : (Fx.xis "BadJournal" (.own "BadFamily") false).ok K = true := T.c.z.y.fact 126 (f := .xis "BadJournal" (.own "BadFamily") false) rfl
theorem x_127 : (Fx.xis "BadIndex" (.own "BadFamily") false).ok K = true := T.c.z.y.fact 127 (f := .xis "BadIndex" (.own "BadFamily") false) rfl
theorem x_128 : (Fx.xis "BadHand" (.own "BadFamily") false).ok K = true := T.c.z.y.fact 128 (f := .xis "BadHand" (.own "BadFamily") false) rfl
theorem x_129 : (Fx.xis "BadFamily" (.own "BadFamily") true).ok K = true := T.c.z.y.fact 129 (f := .xis "BadFamily" (.own "BadFamily") true) rfl
theorem x_130 : (Fx.xis "BadFalls" (.own "BadFamily") false).ok K = true := T.c.z.y.fact 130 (f := .xis "BadFalls" (.own "BadFamily") false) rfl
theorem x_131 : (Fx.xis "BadEntries" (.own "BadFamily") false).ok K = true := T.c.z.y.fact 131 (f := .xis "BadEntries" (.own "BadFamily") false) rfl
theorem x_132 : (Fx.xis "BadDeed" (.own "BadFamily") false).ok K = true := T.c.z.y.fact 132 (f := .xis "BadDeed" (.own "BadFamily") false) rfl
theorem x_133 : (Fx.xis "BadCourse" (.own "BadFamily") false).ok K = true := T.c.z.y.fact 133 (f := .xis "BadCourse" (.own "BadFamily") false) rfl
theorem x_134 : (Fx.xis "BadCount" (.own "BadFamily") false).ok K = true := T.c.z.y.fact 134 (f := .xis "BadCount" (.own "BadFamily") false) rfl
theorem x_135 : (Fx.xis "BadBook" (.own "BadFamily") false).ok K = true := T.c.z.y.fact 135 (f := .xis "BadBook" (.own "BadFamily") false) rfl
theorem x_136 : (Fx.kits (.own "BadCount") [("NoneType", false), ("bool", false), ("int", false), ("str", false), ("tuple", false), ("list", false), ("dict", false)]).ok K = true := T.c.z.y.fact 136 (f := .kits (.own "BadCount") [("NoneType", false), ("bool", false), ("int", false), ("str", false), ("tuple", false), ("list", false), ("dict", false)]) rfl
theorem x_137 : (Fx.xis "OtherMachines" (.own "BadCount") false).ok K = true := T.c.z.y.fact 137 (f := .xis "OtherMachines" (.own "BadCount") false) rfl
theorem x_138 : (Fx.xis "NothingDone" (.own "BadCount") false).ok K = true := T.c.z.y.fact 138 (f := .xis "NothingDone" (.own "BadCount") false) rfl
theorem x_139 : (Fx.xis "NotRight" (.own "BadCount") false).ok K = true := T.c.z.y.fact 139 (f := .xis "NotRight" (.own "BadCount") false) rfl
theorem x_140 : (Fx.xis "NotNewest" (.own "BadCount") false).ok K = true := T.c.z.y.fact 140 (f := .xis "NotNewest" (.own "BadCount") false) rfl
theorem x_141 : (Fx.xis "NoTalk" (.own "BadCount") false).ok K = true := T.c.z.y.fact 141 (f := .xis "NoTalk" (.own "BadCount") false) rfl
theorem x_142 : (Fx.xis "NoLots" (.own "BadCount") false).ok K = true := T.c.z.y.fact 142 (f := .xis "NoLots" (.own "BadCount") false) rfl
theorem x_143 : (Fx.xis "CutOff" (.own "BadCount") false).ok K = true := T.c.z.y.fact 143 (f := .xis "CutOff" (.own "BadCount") false) rfl
theorem x_144 : (Fx.xis "BadWeights" (.own "BadCount") false).ok K = true := T.c.z.y.fact 144 (f := .xis "BadWeights" (.own "BadCount") false) rfl
theorem x_145 : (Fx.xis "BadTold" (.own "BadCount") false).ok K = true := T.c.z.y.fact 145 (f := .xis "BadTold" (.own "BadCount") false) rfl
theorem x_146 : (Fx.xis "BadText" (.own "BadCount") false).ok K = true := T.c.z.y.fact 146 (f := .xis "BadText" (.own "BadCount") false) rfl
theorem x_147 : (Fx.xis "BadStanding" (.own "BadCount") false).ok K = true := T.c.z.y.fact 147 (f := .xis "BadStanding" (.own "BadCount") false) rfl
theorem x_148 : (Fx.xis "BadStages" (.own "BadCount") false).ok K = true := T.c.z.y.fact 148 (f := .xis "BadStages" (.own "BadCount") false) rfl
theorem x_149 : (Fx.xis "BadSpread" (.own "BadCount") false).ok K = true := T.c.z.y.fact 149 (f := .xis "BadSpread" (.own "BadCount") false) rfl
theorem x_150 : (Fx.xis "BadRun" (.own "BadCount") false).ok K = true := T.c.z.y.fact 150 (f := .xis "BadRun" (.own "BadCount") false) rfl
theorem x_151 : (Fx.xis "BadRecord" (.own "BadCount") false).ok K = true := T.c.z.y.fact 151 (f := .xis "BadRecord" (.own "BadCount") false) rfl
theorem x_152 : (Fx.xis "BadRacks" (.own "BadCount") false).ok K = true := T.c.z.y.fact 152 (f := .xis "BadRacks" (.own "BadCount") false) rfl
theorem x_153 : (Fx.xis "BadQuota" (.own "BadCount") false).ok K = true := T.c.z.y.fact 153 (f := .xis "BadQuota" (.own "BadCount") false) rfl
theorem x_154 : (Fx.xis "BadPrices" (.own "BadCount") false).ok K = true := T.c.z.y.fact 154 (f := .xis "BadPrices" (.own "BadCount") false) rfl
theorem x_155 : (Fx.xis "BadPlace" (.own "BadCount") false).ok K = true := T.c.z.y.fact 155 (f := .xis "BadPlace" (.own "BadCount") false) rfl
theorem x_156 : (Fx.xis "BadMachine" (.own "BadCount") false).ok K = true := T.c.z.y.fact 156 (f := .xis "BadMachine" (.own "BadCount") false) rfl
theorem x_157 : (Fx.xis "BadLot" (.own "BadCount") false).ok K = true := T.c.z.y.fact 157 (f := .xis "BadLot" (.own "BadCount") false) rfl
theorem x_158 : (Fx.xis "BadLog" (.own "BadCount") false).ok K = true := T.c.z.y.fact 158 (f := .xis "BadLog" (.own "BadCount") false) rfl
theorem x_159 : (Fx.xis "BadLeft" (.own "BadCount") false).ok K = true := T.c.z.y.fact 159 (f := .xis "BadLeft" (.own "BadCount") false) rfl
theorem x_160 : (Fx.xis "BadJournal" (.own "BadCount") false).ok K = true := T.c.z.y.fact 160 (f := .xis "BadJournal" (.own "BadCount") false) rfl
theorem x_161 : (Fx.xis "BadIndex" (.own "BadCount") false).ok K = true := T.c.z.y.fact 161 (f := .xis "BadIndex" (.own "BadCount") false) rfl
theorem x_162 : (Fx.xis "BadHand" (.own "BadCount") false).ok K = true := T.c.z.y.fact 162 (f := .xis "BadHand" (.own "BadCount") false) rfl
theorem x_163 : (Fx.xis "BadFamily" (.own "BadCount") false).ok K = true := T.c.z.y.fact 163 (f := .xis "BadFamily" (.own "BadCount") false) rfl
theorem x_164 : (Fx.xis "BadFalls" (.own "BadCount") false).ok K = true := T.c.z.y.fact 164 (f := .xis "BadFalls" (.own "BadCount") false) rfl
theorem x_165 : (Fx.xis "BadEntries" (.own "BadCount") false).ok K = true := T.c.z.y.fact 165 (f := .xis "BadEntries" (.own "BadCount") false) rfl
theorem x_166 : (Fx.xis "BadDeed" (.own "BadCount") false).ok K = true := T.c.z.y.fact 166 (f := .xis "BadDeed" (.own "BadCount") false) rfl
theorem x_167 : (Fx.xis "BadCourse" (.own "BadCount") false).ok K = true := T.c.z.y.fact 167 (f := .xis "BadCourse" (.own "BadCount") false) rfl
theorem x_168 : (Fx.xis "BadCount" (.own "BadCount") true).ok K = true := T.c.z.y.fact 168 (f := .xis "BadCount" (.own "BadCount") true) rfl
theorem x_169 : (Fx.xis "BadBook" (.own "BadCount") false).ok K = true := T.c.z.y.fact 169 (f := .xis "BadBook" (.own "BadCount") false) rfl
theorem x_170 : (Fx.kits (.own "BadQuota") [("NoneType", false), ("bool", false), ("int", false), ("str", false), ("tuple", false), ("list", false), ("dict", false)]).ok K = true := T.c.z.y.fact 170 (f := .kits (.own "BadQuota") [("NoneType", false), ("bool", false), ("int", false), ("str", false), ("tuple", false), ("list", false), ("dict", false)]) rfl
theorem x_171 : (Fx.xis "OtherMachines" (.own "BadQuota") false).ok K = true := T.c.z.y.fact 171 (f := .xis "OtherMachines" (.own "BadQuota") false) rfl
theorem x_172 : (Fx.xis "NothingDone" (.own "BadQuota") false).ok K = true := T.c.z.y.fact 172 (f := .xis "NothingDone" (.own "BadQuota") false) rfl
theorem x_173 : (Fx.xis "NotRight" (.own "BadQuota") false).ok K = true := T.c.z.y.fact 173 (f := .xis "NotRight" (.own "BadQuota") false) rfl
theorem x_174 : (Fx.xis "NotNewest" (.own "BadQuota") false).ok K = true := T.c.z.y.fact 174 (f := .xis "NotNewest" (.own "BadQuota") false) rfl
theorem x_175 : (Fx.xis "NoTalk" (.own "BadQuota") false).ok K = true := T.c.z.y.fact 175 (f := .xis "NoTalk" (.own "BadQuota") false) rfl
theorem x_176 : (Fx.xis "NoLots" (.own "BadQuota") false).ok K = true := T.c.z.y.fact 176 (f := .xis "NoLots" (.own "BadQuota") false) rfl
theorem x_177 : (Fx.xis "CutOff" (.own "BadQuota") false).ok K = true := T.c.z.y.fact 177 (f := .xis "CutOff" (.own "BadQuota") false) rfl
theorem x_178 : (Fx.xis "BadWeights" (.own "BadQuota") false).ok K = true := T.c.z.y.fact 178 (f := .xis "BadWeights" (.own "BadQuota") false) rfl
theorem x_179 : (Fx.xis "BadTold" (.own "BadQuota") false).ok K = true := T.c.z.y.fact 179 (f := .xis "BadTold" (.own "BadQuota") false) rfl
theorem x_180 : (Fx.xis "BadText" (.own "BadQuota") false).ok K = true := T.c.z.y.fact 180 (f := .xis "BadText" (.own "BadQuota") false) rfl
theorem x_181 : (Fx.xis "BadStanding" (.own "BadQuota") false).ok K = true := T.c.z.y.fact 181 (f := .xis "BadStanding" (.own "BadQuota") false) rfl
theorem x_182 : (Fx.xis "BadStages" (.own "BadQuota") false).ok K = true := T.c.z.y.fact 182 (f := .xis "BadStages" (.own "BadQuota") false) rfl
theorem x_183 : (Fx.xis "BadSpread" (.own "BadQuota") false).ok K = true := T.c.z.y.fact 183 (f := .xis "BadSpread" (.own "BadQuota") false) rfl
theorem x_184 : (Fx.xis "BadRun" (.own "BadQuota") false).ok K = true := T.c.z.y.fact 184 (f := .xis "BadRun" (.own "BadQuota") false) rfl
theorem x_185 : (Fx.xis "BadRecord" (.own "BadQuota") false).ok K = true := T.c.z.y.fact 185 (f := .xis "BadRecord" (.own "BadQuota") false) rfl
theorem x_186 : (Fx.xis "BadRacks" (.own "BadQuota") false).ok K = true := T.c.z.y.fact 186 (f := .xis "BadRacks" (.own "BadQuota") false) rfl
theorem x_187 : (Fx.xis "BadQuota" (.own "BadQuota") true).ok K = true := T.c.z.y.fact 187 (f := .xis "BadQuota" (.own "BadQuota") true) rfl
theorem x_188 : (Fx.xis "BadPrices" (.own "BadQuota") false).ok K = true := T.c.z.y.fact 188 (f := .xis "BadPrices" (.own "BadQuota") false) rfl
theorem x_189 : (Fx.xis "BadPlace" (.own "BadQuota") false).ok K = true := T.c.z.y.fact 189 (f := .xis "BadPlace" (.own "BadQuota") false) rfl
theorem x_190 : (Fx.xis "BadMachine" (.own "BadQuota") false).ok K = true := T.c.z.y.fact 190 (f := .xis "BadMachine" (.own "BadQuota") false) rfl
theorem x_191 : (Fx.xis "BadLot" (.own "BadQuota") false).ok K = true := T.c.z.y.fact 191 (f := .xis "BadLot" (.own "BadQuota") false) rfl
theorem x_192 : (Fx.xis "BadLog" (.own "BadQuota") false).ok K = true := T.c.z.y.fact 192 (f := .xis "BadLog" (.own "BadQuota") false) rfl
theorem x_193 : (Fx.xis "BadLeft" (.own "BadQuota") false).ok K = true := T.c.z.y.fact 193 (f := .xis "BadLeft" (.own "BadQuota") false) rfl
theorem x_194 : (Fx.xis "BadJournal" (.own "BadQuota") false).ok K = true := T.c.z.y.fact 194 (f := .xis "BadJournal" (.own "BadQuota") false) rfl
theorem x_195 : (Fx.xis "BadIndex" (.own "BadQuota") false).ok K = true := T.c.z.y.fact 195 (f := .xis "BadIndex" (.own "BadQuota") false) rfl
theorem x_196 : (Fx.xis "BadHand" (.own "BadQuota") false).ok K = true := T.c.z.y.fact 196 (f := .xis "BadHand" (.own "BadQuota") false) rfl
theorem x_197 : (Fx.xis "BadFamily" (.own "BadQuota") false).ok K = true := T.c.z.y.fact 197 (f := .xis "BadFamily" (.own "BadQuota") false) rfl
theorem x_198 : (Fx.xis "BadFalls" (.own "BadQuota") false).ok K = true := T.c.z.y.fact 198 (f := .xis "BadFalls" (.own "BadQuota") false) rfl
theorem x_199 : (Fx.xis "BadEntries" (.own "BadQuota") false).ok K = true := T.c.z.y.fact 199 (f := .xis "BadEntries" (.own "BadQuota") false) rfl
theorem x_200 : (Fx.xis "BadDeed" (.own "BadQuota") false).ok K = true := T.c.z.y.fact 200 (f := .xis "BadDeed" (.own "BadQuota") false) rfl
theorem x_201 : (Fx.xis "BadCourse" (.own "BadQuota") false).ok K = true := T.c.z.y.fact 201 (f := .xis "BadCourse" (.own "BadQuota") false) rfl
theorem x_202 : (Fx.xis "BadCount" (.own "BadQuota") false).ok K = true := T.c.z.y.fact 202 (f := .xis "BadCount" (.own "BadQuota") false) rfl
theorem x_203 : (Fx.xis "BadBook" (.own "BadQuota") false).ok K = true := T.c.z.y.fact 203 (f := .xis "BadBook" (.own "BadQuota") false) rfl
theorem x_204 : (Fx.kits (.own "BadHand") [("NoneType", false), ("bool", false), ("int", false), ("str", false), ("tuple", false), ("list", false), ("dict", false)]).ok K = true := T.c.z.y.fact 204 (f := .kits (.own "BadHand") [("NoneType", false), ("bool", false), ("int", false), ("str", false), ("tuple", false), ("list", false), ("dict", false)]) rfl
theorem x_205 : (Fx.xis "OtherMachines" (.own "BadHand") false).ok K = true := T.c.z.y.fact 205 (f := .xis "OtherMachines" (.own "BadHand") false) rfl
theorem x_206 : (Fx.xis "NothingDone" (.own "BadHand") false).ok K = true := T.c.z.y.fact 206 (f := .xis "NothingDone" (.own "BadHand") false) rfl
theorem x_207 : (Fx.xis "NotRight" (.own "BadHand") false).ok K = true := T.c.z.y.fact 207 (f := .xis "NotRight" (.own "BadHand") false) rfl
theorem x_208 : (Fx.xis "NotNewest" (.own "BadHand") false).ok K = true := T.c.z.y.fact 208 (f := .xis "NotNewest" (.own "BadHand") false) rfl
theorem x_209 : (Fx.xis "NoTalk" (.own "BadHand") false).ok K = true := T.c.z.y.fact 209 (f := .xis "NoTalk" (.own "BadHand") false) rfl
theorem x_210 : (Fx.xis "NoLots" (.own "BadHand") false).ok K = true := T.c.z.y.fact 210 (f := .xis "NoLots" (.own "BadHand") false) rfl
theorem x_211 : (Fx.xis "CutOff" (.own "BadHand") false).ok K = true := T.c.z.y.fact 211 (f := .xis "CutOff" (.own "BadHand") false) rfl
theorem x_212 : (Fx.xis "BadWeights" (.own "BadHand") false).ok K = true := T.c.z.y.fact 212 (f := .xis "BadWeights" (.own "BadHand") false) rfl
theorem x_213 : (Fx.xis "BadTold" (.own "BadHand") false).ok K = true := T.c.z.y.fact 213 (f := .xis "BadTold" (.own "BadHand") false) rfl
theorem x_214 : (Fx.xis "BadText" (.own "BadHand") false).ok K = true := T.c.z.y.fact 214 (f := .xis "BadText" (.own "BadHand") false) rfl
theorem x_215 : (Fx.xis "BadStanding" (.own "BadHand") false).ok K = true := T.c.z.y.fact 215 (f := .xis "BadStanding" (.own "BadHand") false) rfl
theorem x_216 : (Fx.xis "BadStages" (.own "BadHand") false).ok K = true := T.c.z.y.fact 216 (f := .xis "BadStages" (.own "BadHand") false) rfl
theorem x_217 : (Fx.xis "BadSpread" (.own "BadHand") false).ok K = true := T.c.z.y.fact 217 (f := .xis "BadSpread" (.own "BadHand") false) rfl
theorem x_218 : (Fx.xis "BadRun" (.own "BadHand") false).ok K = true := T.c.z.y.fact 218 (f := .xis "BadRun" (.own "BadHand") false) rfl
theorem x_219 : (Fx.xis "BadRecord" (.own "BadHand") false).ok K = true := T.c.z.y.fact 219 (f := .xis "BadRecord" (.own "BadHand") false) rfl
theorem x_220 : (Fx.xis "BadRacks" (.own "BadHand") false).ok K = true := T.c.z.y.fact 220 (f := .xis "BadRacks" (.own "BadHand") false) rfl
theorem x_221 : (Fx.xis "BadQuota" (.own "BadHand") false).ok K = true := T.c.z.y.fact 221 (f := .xis "BadQuota" (.own "BadHand") false) rfl
theorem x_222 : (Fx.xis "BadPrices" (.own "BadHand") false).ok K = true := T.c.z.y.fact 222 (f := .xis "BadPrices" (.own "BadHand") false) rfl
theorem x_223 : (Fx.xis "BadPlace" (.own "BadHand") false).ok K = true := T.c.z.y.fact 223 (f := .xis "BadPlace" (.own "BadHand") false) rfl
theorem x_224 : (Fx.xis "BadMachine" (.own "BadHand") false).ok K = true := T.c.z.y.fact 224 (f := .xis "BadMachine" (.own "BadHand") false) rfl
theorem x_225 : (Fx.xis "BadLot" (.own "BadHand") false).ok K = true := T.c.z.y.fact 225 (f := .xis "BadLot" (.own "BadHand") false) rfl
theorem x_226 : (Fx.xis "BadLog" (.own "BadHand") false).ok K = true := T.c.z.y.fact 226 (f := .xis "BadLog" (.own "BadHand") false) rfl
theorem x_227 : (Fx.xis "BadLeft" (.own "BadHand") false).ok K = true := T.c.z.y.fact 227 (f := .xis "BadLeft" (.own "BadHand") false) rfl
theorem x_228 : (Fx.xis "BadJournal" (.own "BadHand") false).ok K = true := T.c.z.y.fact 228 (f := .xis "BadJournal" (.own "BadHand") false) rfl
theorem x_229 : (Fx.xis "BadIndex" (.own "BadHand") false).ok K = true := T.c.z.y.fact 229 (f := .xis "BadIndex" (.own "BadHand") false) rfl
theorem x_230 : (Fx.xis "BadHand" (.own "BadHand") true).ok K = true := T.c.z.y.fact 230 (f := .xis "BadHand" (.own "BadHand") true) rfl
theorem x_231 : (Fx.xis "BadFamily" (.own "BadHand") false).ok K = true := T.c.z.y.fact 231 (f := .xis "BadFamily" (.own "BadHand") false) rfl
theorem x_232 : (Fx.xis "BadFalls" (.own "BadHand") false).ok K = true := T.c.z.y.fact 232 (f := .xis "BadFalls" (.own "BadHand") false) rfl
theorem x_233 : (Fx.xis "BadEntries" (.own "BadHand") false).ok K = true := T.c.z.y.fact 233 (f := .xis "BadEntries" (.own "BadHand") false) rfl
theorem x_234 : (Fx.xis "BadDeed" (.own "BadHand") false).ok K = true := T.c.z.y.fact 234 (f := .xis "BadDeed" (.own "BadHand") false) rfl
theorem x_235 : (Fx.xis "BadCourse" (.own "BadHand") false).ok K = true := T.c.z.y.fact 235 (f := .xis "BadCourse" (.own "BadHand") false) rfl
theorem x_236 : (Fx.xis "BadCount" (.own "BadHand") false).ok K = true := T.c.z.y.fact 236 (f := .xis "BadCount" (.own "BadHand") false) rfl
theorem x_237 : (Fx.xis "BadBook" (.own "BadHand") false).ok K = true := T.c.z.y.fact 237 (f := .xis "BadBook" (.own "BadHand") false) rfl
theorem x_238 : (Fx.kits (.own "BadBook") [("NoneType", false), ("bool", false), ("int", false), ("str", false), ("tuple", false), ("list", false), ("dict", false)]).ok K = true := T.c.z.y.fact 238 (f := .kits (.own "BadBook") [("NoneType", false), ("bool", false), ("int", false), ("str", false), ("tuple", false), ("list", false), ("dict", false)]) rfl
theorem x_239 : (Fx.xis "OtherMachines" (.own "BadBook") false).ok K = true := T.c.z.y.fact 239 (f := .xis "OtherMachines" (.own "BadBook") false) rfl
theorem x_240 : (Fx.xis "NothingDone" (.own "BadBook") false).ok K = true := T.c.z.y.fact 240 (f := .xis "NothingDone" (.own "BadBook") false) rfl
theorem x_241 : (Fx.xis "NotRight" (.own "BadBook") false).ok K = true := T.c.z.y.fact 241 (f := .xis "NotRight" (.own "BadBook") false) rfl
theorem x_242 : (Fx.xis "NotNewest" (.own "BadBook") false).ok K = true := T.c.z.y.fact 242 (f := .xis "NotNewest" (.own "BadBook") false) rfl
theorem x_243 : (Fx.xis "NoTalk" (.own "BadBook") false).ok K = true := T.c.z.y.fact 243 (f := .xis "NoTalk" (.own "BadBook") false) rfl
theorem x_244 : (Fx.xis "NoLots" (.own "BadBook") false).ok K = true := T.c.z.y.fact 244 (f := .xis "NoLots" (.own "BadBook") false) rfl
theorem x_245 : (Fx.xis "CutOff" (.own "BadBook") false).ok K = true := T.c.z.y.fact 245 (f := .xis "CutOff" (.own "BadBook") false) rfl
theorem x_246 : (Fx.xis "BadWeights" (.own "BadBook") false).ok K = true := T.c.z.y.fact 246 (f := .xis "BadWeights" (.own "BadBook") false) rfl
theorem x_247 : (Fx.xis "BadTold" (.own "BadBook") false).ok K = true := T.c.z.y.fact 247 (f := .xis "BadTold" (.own "BadBook") false) rfl
theorem x_248 : (Fx.xis "BadText" (.own "BadBook") false).ok K = true := T.c.z.y.fact 248 (f := .xis "BadText" (.own "BadBook") false) rfl
theorem x_249 : (Fx.xis "BadStanding" (.own "BadBook") false).ok K = true := T.c.z.y.fact 249 (f := .xis "BadStanding" (.own "BadBook") false) rfl
theorem x_250 : (Fx.xis "BadStages" (.own "BadBook") false).ok K = true := T.c.z.y.fact 250 (f := .xis "BadStages" (.own "BadBook") false) rfl
theorem x_251 : (Fx.xis "BadSpread" (.own "BadBook") false).ok K = true := T.c.z.y.fact 251 (f := .xis "BadSpread" (.own "BadBook") false) rfl
theorem x_252 : (Fx.xis "BadRun" (.own "BadBook") false).ok K = true := T.c.z.y.fact 252 (f := .xis "BadRun" (.own "BadBook") false) rfl
theorem x_253 : (Fx.xis "BadRecord" (.own "BadBook") false).ok K = true := T.c.z.y.fact 253 (f := .xis "BadRecord" (.own "BadBook") false) rfl
theorem x_254 : (Fx.xis "BadRacks" (.own "BadBook") false).ok K = true := T.c.z.y.fact 254 (f := .xis "BadRacks" (.own "BadBook") false) rfl
theorem x_255 : (Fx.xis "BadQuota" (.own "BadBook") false).ok K = true := T.c.z.y.fact 255 (f := .xis "BadQuota" (.own "BadBook") false) rfl
theorem x_256 : (Fx.xis "BadPrices" (.own "BadBook") false).ok K = true := T.c.z.y.fact 256 (f := .xis "BadPrices" (.own "BadBook") false) rfl
theorem x_257 : (Fx.xis "BadPlace" (.own "BadBook") false).ok K = true := T.c.z.y.fact 257 (f := .xis "BadPlace" (.own "BadBook") false) rfl
theorem x_258 : (Fx.xis "BadMachine" (.own "BadBook") false).ok K = true := T.c.z.y.fact 258 (f := .xis "BadMachine" (.own "BadBook") false) rfl
theorem x_259 : (Fx.xis "BadLot" (.own "BadBook") false).ok K = true := T.c.z.y.fact 259 (f := .xis "BadLot" (.own "BadBook") false) rfl
theorem x_260 : (Fx.xis "BadLog" (.own "BadBook") false).ok K = true := T.c.z.y.fact 260 (f := .xis "BadLog" (.own "BadBook") false) rfl
theorem x_261 : (Fx.xis "BadLeft" (.own "BadBook") false).ok K = true := T.c.z.y.fact 261 (f := .xis "BadLeft" (.own "BadBook") false) rfl
theorem x_262 : (Fx.xis "BadJournal" (.own "BadBook") false).ok K = true := T.c.z.y.fact 262 (f := .xis "BadJournal" (.own "BadBook") false) rfl
theorem x_263 : (Fx.xis "BadIndex" (.own "BadBook") false).ok K = true := T.c.z.y.fact 263 (f := .xis "BadIndex" (.own "BadBook") false) rfl
theorem x_264 : (Fx.xis "BadHand" (.own "BadBook") false).ok K = true := T.c.z.y.fact 264 (f := .xis "BadHand" (.own "BadBook") false) rfl
theorem x_265 : (Fx.xis "BadFamily" (.own "BadBook") false).ok K = true := T.c.z.y.fact 265 (f := .xis "BadFamily" (.own "BadBook") false) rfl
theorem x_266 : (Fx.xis "BadFalls" (.own "BadBook") false).ok K = true := T.c.z.y.fact 266 (f := .xis "BadFalls" (.own "BadBook") false) rfl
theorem x_267 : (Fx.xis "BadEntries" (.own "BadBook") false).ok K = true := T.c.z.y.fact 267 (f := .xis "BadEntries" (.own "BadBook") false) rfl
theorem x_268 : (Fx.xis "BadDeed" (.own "BadBook") false).ok K = true := T.c.z.y.fact 268 (f := .xis "BadDeed" (.own "BadBook") false) rfl
theorem x_269 : (Fx.xis "BadCourse" (.own "BadBook") false).ok K = true := T.c.z.y.fact 269 (f := .xis "BadCourse" (.own "BadBook") false) rfl
theorem x_270 : (Fx.xis "BadCount" (.own "BadBook") false).ok K = true := T.c.z.y.fact 270 (f := .xis "BadCount" (.own "BadBook") false) rfl
theorem x_271 : (Fx.xis "BadBook" (.own "BadBook") true).ok K = true := T.c.z.y.fact 271 (f := .xis "BadBook" (.own "BadBook") true) rfl
theorem x_272 : (Fx.kits (.own "BadMachine") [("NoneType", false), ("bool", false), ("int", false), ("str", false), ("tuple", false), ("list", false), ("dict", false)]).ok K = true := T.c.z.y.fact 272 (f := .kits (.own "BadMachine") [("NoneType", false), ("bool", false), ("int", false), ("str", false), ("tuple", false), ("list", false), ("dict", false)]) rfl
theorem x_273 : (Fx.xis "OtherMachines" (.own "BadMachine") false).ok K = true := T.c.z.y.fact 273 (f := .xis "OtherMachines" (.own "BadMachine") false) rfl
theorem x_274 : (Fx.xis "NothingDone" (.own "BadMachine") false).ok K = true := T.c.z.y.fact 274 (f := .xis "NothingDone" (.own "BadMachine") false) rfl
theorem x_275 : (Fx.xis "NotRight" (.own "BadMachine") false).ok K = true := T.c.z.y.fact 275 (f := .xis "NotRight" (.own "BadMachine") false) rfl
theorem x_276 : (Fx.xis "NotNewest" (.own "BadMachine") false).ok K = true := T.c.z.y.fact 276 (f := .xis "NotNewest" (.own "BadMachine") false) rfl
theorem x_277 : (Fx.xis "NoTalk" (.own "BadMachine") false).ok K = true := T.c.z.y.fact 277 (f := .xis "NoTalk" (.own "BadMachine") false) rfl
theorem x_278 : (Fx.xis "NoLots" (.own "BadMachine") false).ok K = true := T.c.z.y.fact 278 (f := .xis "NoLots" (.own "BadMachine") false) rfl
theorem x_279 : (Fx.xis "CutOff" (.own "BadMachine") false).ok K = true := T.c.z.y.fact 279 (f := .xis "CutOff" (.own "BadMachine") false) rfl
theorem x_280 : (Fx.xis "BadWeights" (.own "BadMachine") false).ok K = true := T.c.z.y.fact 280 (f := .xis "BadWeights" (.own "BadMachine") false) rfl
theorem x_281 : (Fx.xis "BadTold" (.own "BadMachine") false).ok K = true := T.c.z.y.fact 281 (f := .xis "BadTold" (.own "BadMachine") false) rfl
theorem x_282 : (Fx.xis "BadText" (.own "BadMachine") false).ok K = true := T.c.z.y.fact 282 (f := .xis "BadText" (.own "BadMachine") false) rfl
theorem x_283 : (Fx.xis "BadStanding" (.own "BadMachine") false).ok K = true := T.c.z.y.fact 283 (f := .xis "BadStanding" (.own "BadMachine") false) rfl
theorem x_284 : (Fx.xis "BadStages" (.own "BadMachine") false).ok K = true := T.c.z.y.fact 284 (f := .xis "BadStages" (.own "BadMachine") false) rfl
theorem x_285 : (Fx.xis "BadSpread" (.own "BadMachine") false).ok K = true := T.c.z.y.fact 285 (f := .xis "BadSpread" (.own "BadMachine") false) rfl
theorem x_286 : (Fx.xis "BadRun" (.own "BadMachine") false).ok K = true := T.c.z.y.fact 286 (f := .xis "BadRun" (.own "BadMachine") false) rfl
theorem x_287 : (Fx.xis "BadRecord" (.own "BadMachine") false).ok K = true := T.c.z.y.fact 287 (f := .xis "BadRecord" (.own "BadMachine") false) rfl
theorem x_288 : (Fx.xis "BadRacks" (.own "BadMachine") false).ok K = true := T.c.z.y.fact 288 (f := .xis "BadRacks" (.own "BadMachine") false) rfl
theorem x_289 : (Fx.xis "BadQuota" (.own "BadMachine") false).ok K = true := T.c.z.y.fact 289 (f := .xis "BadQuota" (.own "BadMachine") false) rfl
theorem x_290 : (Fx.xis "BadPrices" (.own "BadMachine") false).ok K = true := T.c.z.y.fact 290 (f := .xis "BadPrices" (.own "BadMachine") false) rfl
theorem x_291 : (Fx.xis "BadPlace" (.own "BadMachine") false).ok K = true := T.c.z.y.fact 291 (f := .xis "BadPlace" (.own "BadMachine") false) rfl
theorem x_292 : (Fx.xis "BadMachine" (.own "BadMachine") true).ok K = true := T.c.z.y.fact 292 (f := .xis "BadMachine" (.own "BadMachine") true) rfl
theorem x_293 : (Fx.xis "BadLot" (.own "BadMachine") false).ok K = true := T.c.z.y.fact 293 (f := .xis "BadLot" (.own "BadMachine") false) rfl
theorem x_294 : (Fx.xis "BadLog" (.own "BadMachine") false).ok K = true := T.c.z.y.fact 294 (f := .xis "BadLog" (.own "BadMachine") false) rfl
theorem x_295 : (Fx.xis "BadLeft" (.own "BadMachine") false).ok K = true := T.c.z.y.fact 295 (f := .xis "BadLeft" (.own "BadMachine") false) rfl
theorem x_296 : (Fx.xis "BadJournal" (.own "BadMachine") false).ok K = true := T.c.z.y.fact 296 (f := .xis "BadJournal" (.own "BadMachine") false) rfl
theorem x_297 : (Fx.xis "BadIndex" (.own "BadMachine") false).ok K = true := T.c.z.y.fact 297 (f := .xis "BadIndex" (.own "BadMachine") false) rfl
theorem x_298 : (Fx.xis "BadHand" (.own "BadMachine") false).ok K = true := T.c.z.y.fact 298 (f := .xis "BadHand" (.own "BadMachine") false) rfl
theorem x_299 : (Fx.xis "BadFamily" (.own "BadMachine") false).ok K = true := T.c.z.y.fact 299 (f := .xis "BadFamily" (.own "BadMachine") false) rfl
theorem x_300 : (Fx.xis "BadFalls" (.own "BadMachine") false).ok K = true := T.c.z.y.fact 300 (f := .xis "BadFalls" (.own "BadMachine") false) rfl
theorem x_301 : (Fx.xis "BadEntries" (.own "BadMachine") false).ok K = true := T.c.z.y.fact 301 (f := .xis "BadEntries" (.own "BadMachine") false) rfl
theorem x_302 : (Fx.xis "BadDeed" (.own "BadMachine") false).ok K = true := T.c.z.y.fact 302 (f := .xis "BadDeed" (.own "BadMachine") false) rfl
theorem x_303 : (Fx.xis "BadCourse" (.own "BadMachine") false).ok K = true := T.c.z.y.fact 303 (f := .xis "BadCourse" (.own "BadMachine") false) rfl
theorem x_304 : (Fx.xis "BadCount" (.own "BadMachine") false).ok K = true := T.c.z.y.fact 304 (f := .xis "BadCount" (.own "BadMachine") false) rfl
theorem x_305 : (Fx.xis "BadBook" (.own "BadMachine") false).ok K = true := T.c.z.y.fact 305 (f := .xis "BadBook" (.own "BadMachine") false) rfl
theorem x_306 : (Fx.kits (.own "BadLeft") [("NoneType", false), ("bool", false), ("int", false), ("str", false), ("tuple", false), ("list", false), ("dict", false)]).ok K = true := T.c.z.y.fact 306 (f := .kits (.own "BadLeft") [("NoneType", false), ("bool", false), ("int", false), ("str", false), ("tuple", false), ("list", false), ("dict", false)]) rfl
theorem x_307 : (Fx.xis "OtherMachines" (.own "BadLeft") false).ok K = true := T.c.z.y.fact 307 (f := .xis "OtherMachines" (.own "BadLeft") false) rfl
theorem x_308 : (Fx.xis "NothingDone" (.own "BadLeft") false).ok K = true := T.c.z.y.fact 308 (f := .xis "NothingDone" (.own "BadLeft") false) rfl
theorem x_309 : (Fx.xis "NotRight" (.own "BadLeft") false).ok K = true := T.c.z.y.fact 309 (f := .xis "NotRight" (.own "BadLeft") false) rfl
theorem x_310 : (Fx.xis "NotNewest" (.own "BadLeft") false).ok K = true := T.c.z.y.fact 310 (f := .xis "NotNewest" (.own "BadLeft") false) rfl
theorem x_311 : (Fx.xis "NoTalk" (.own "BadLeft") false).ok K = true := T.c.z.y.fact 311 (f := .xis "NoTalk" (.own "BadLeft") false) rfl
theorem x_312 : (Fx.xis "NoLots" (.own "BadLeft") false).ok K = true := T.c.z.y.fact 312 (f := .xis "NoLots" (.own "BadLeft") false) rfl
theorem x_313 : (Fx.xis "CutOff" (.own "BadLeft") false).ok K = true := T.c.z.y.fact 313 (f := .xis "CutOff" (.own "BadLeft") false) rfl
theorem x_314 : (Fx.xis "BadWeights" (.own "BadLeft") false).ok K = true := T.c.z.y.fact 314 (f := .xis "BadWeights" (.own "BadLeft") false) rfl
theorem x_315 : (Fx.xis "BadTold" (.own "BadLeft") false).ok K = true := T.c.z.y.fact 315 (f := .xis "BadTold" (.own "BadLeft") false) rfl
theorem x_316 : (Fx.xis "BadText" (.own "BadLeft") false).ok K = true := T.c.z.y.fact 316 (f := .xis "BadText" (.own "BadLeft") false) rfl
theorem x_317 : (Fx.xis "BadStanding" (.own "BadLeft") false).ok K = true := T.c.z.y.fact 317 (f := .xis "BadStanding" (.own "BadLeft") false) rfl
theorem x_318 : (Fx.xis "BadStages" (.own "BadLeft") false).ok K = true := T.c.z.y.fact 318 (f := .xis "BadStages" (.own "BadLeft") false) rfl
theorem x_319 : (Fx.xis "BadSpread" (.own "BadLeft") false).ok K = true := T.c.z.y.fact 319 (f := .xis "BadSpread" (.own "BadLeft") false) rfl
theorem x_320 : (Fx.xis "BadRun" (.own "BadLeft") false).ok K = true := T.c.z.y.fact 320 (f := .xis "BadRun" (.own "BadLeft") false) rfl
theorem x_321 : (Fx.xis "BadRecord" (.own "BadLeft") false).ok K = true := T.c.z.y.fact 321 (f := .xis "BadRecord" (.own "BadLeft") false) rfl
theorem x_322 : (Fx.xis "BadRacks" (.own "BadLeft") false).ok K = true := T.c.z.y.fact 322 (f := .xis "BadRacks" (.own "BadLeft") false) rfl
theorem x_323 : (Fx.xis "BadQuota" (.own "BadLeft") false).ok K = true := T.c.z.y.fact 323 (f := .xis "BadQuota" (.own "BadLeft") false) rfl
theorem x_324 : (Fx.xis "BadPrices" (.own "BadLeft") false).ok K = true := T.c.z.y.fact 324 (f := .xis "BadPrices" (.own "BadLeft") false) rfl
theorem x_325 : (Fx.xis "BadPlace" (.own "BadLeft") false).ok K = true := T.c.z.y.fact 325 (f := .xis "BadPlace" (.own "BadLeft") false) rfl
theorem x_326 : (Fx.xis "BadMachine" (.own "BadLeft") false).ok K = true := T.c.z.y.fact 326 (f := .xis "BadMachine" (.own "BadLeft") false) rfl
theorem x_327 : (Fx.xis "BadLot" (.own "BadLeft") false).ok K = true := T.c.z.y.fact 327 (f := .xis "BadLot" (.own "BadLeft") false) rfl
theorem x_328 : (Fx.xis "BadLog" (.own "BadLeft") false).ok K = true := T.c.z.y.fact 328 (f := .xis "BadLog" (.own "BadLeft") false) rfl
theorem x_329 : (Fx.xis "BadLeft" (.own "BadLeft") true).ok K = true := T.c.z.y.fact 329 (f := .xis "BadLeft" (.own "BadLeft") true) rfl
theorem x_330 : (Fx.xis "BadJournal" (.own "BadLeft") false).ok K = true := T.c.z.y.fact 330 (f := .xis "BadJournal" (.own "BadLeft") false) rfl
theorem x_331 : (Fx.xis "BadIndex" (.own "BadLeft") false).ok K = true := T.c.z.y.fact 331 (f := .xis "BadIndex" (.own "BadLeft") false) rfl
theorem x_332 : (Fx.xis "BadHand" (.own "BadLeft") false).ok K = true := T.c.z.y.fact 332 (f := .xis "BadHand" (.own "BadLeft") false) rfl
theorem x_333 : (Fx.xis "BadFamily" (.own "BadLeft") false).ok K = true := T.c.z.y.fact 333 (f := .xis "BadFamily" (.own "BadLeft") false) rfl
theorem x_334 : (Fx.xis "BadFalls" (.own "BadLeft") false).ok K = true := T.c.z.y.fact 334 (f := .xis "BadFalls" (.own "BadLeft") false) rfl
theorem x_335 : (Fx.xis "BadEntries" (.own "BadLeft") false).ok K = true := T.c.z.y.fact 335 (f := .xis "BadEntries" (.own "BadLeft") false) rfl
theorem x_336 : (Fx.xis "BadDeed" (.own "BadLeft") false).ok K = true := T.c.z.y.fact 336 (f := .xis "BadDeed" (.own "BadLeft") false) rfl
theorem x_337 : (Fx.xis "BadCourse" (.own "BadLeft") false).ok K = true := T.c.z.y.fact 337 (f := .xis "BadCourse" (.own "BadLeft") false) rfl
theorem x_338 : (Fx.xis "BadCount" (.own "BadLeft") false).ok K = true := T.c.z.y.fact 338 (f := .xis "BadCount" (.own "BadLeft") false) rfl
theorem x_339 : (Fx.xis "BadBook" (.own "BadLeft") false).ok K = true := T.c.z.y.fact 339 (f := .xis "BadBook" (.own "BadLeft") false) rfl
theorem x_340 : (Fx.kits (.own "BadDeed") [("NoneType", false), ("bool", false), ("int", false), ("str", false), ("tuple", false), ("list", false), ("dict", false)]).ok K = true := T.c.z.y.fact 340 (f := .kits (.own "BadDeed") [("NoneType", false), ("bool", false), ("int", false), ("str", false), ("tuple", false), ("list", false), ("dict", false)]) rfl
theorem x_341 : (Fx.xis "OtherMachines" (.own "BadDeed") false).ok K = true := T.c.z.y.fact 341 (f := .xis "OtherMachines" (.own "BadDeed") false) rfl
theorem x_342 : (Fx.xis "NothingDone" (.own "BadDeed") false).ok K = true := T.c.z.y.fact 342 (f := .xis "NothingDone" (.own "BadDeed") false) rfl
theorem x_343 : (Fx.xis "NotRight" (.own "BadDeed") false).ok K = true := T.c.z.y.fact 343 (f := .xis "NotRight" (.own "BadDeed") false) rfl
theorem x_344 : (Fx.xis "NotNewest" (.own "BadDeed") false).ok K = true := T.c.z.y.fact 344 (f := .xis "NotNewest" (.own "BadDeed") false) rfl
theorem x_345 : (Fx.xis "NoTalk" (.own "BadDeed") false).ok K = true := T.c.z.y.fact 345 (f := .xis "NoTalk" (.own "BadDeed") false) rfl
theorem x_346 : (Fx.xis "NoLots" (.own "BadDeed") false).ok K = true := T.c.z.y.fact 346 (f := .xis "NoLots" (.own "BadDeed") false) rfl
theorem x_347 : (Fx.xis "CutOff" (.own "BadDeed") false).ok K = true := T.c.z.y.fact 347 (f := .xis "CutOff" (.own "BadDeed") false) rfl
theorem x_348 : (Fx.xis "BadWeights" (.own "BadDeed") false).ok K = true := T.c.z.y.fact 348 (f := .xis "BadWeights" (.own "BadDeed") false) rfl
theorem x_349 : (Fx.xis "BadTold" (.own "BadDeed") false).ok K = true := T.c.z.y.fact 349 (f := .xis "BadTold" (.own "BadDeed") false) rfl
theorem x_350 : (Fx.xis "BadText" (.own "BadDeed") false).ok K = true := T.c.z.y.fact 350 (f := .xis "BadText" (.own "BadDeed") false) rfl
theorem x_351 : (Fx.xis "BadStanding" (.own "BadDeed") false).ok K = true := T.c.z.y.fact 351 (f := .xis "BadStanding" (.own "BadDeed") false) rfl
theorem x_352 : (Fx.xis "BadStages" (.own "BadDeed") false).ok K = true := T.c.z.y.fact 352 (f := .xis "BadStages" (.own "BadDeed") false) rfl
theorem x_353 : (Fx.xis "BadSpread" (.own "BadDeed") false).ok K = true := T.c.z.y.fact 353 (f := .xis "BadSpread" (.own "BadDeed") false) rfl
theorem x_354 : (Fx.xis "BadRun" (.own "BadDeed") false).ok K = true := T.c.z.y.fact 354 (f := .xis "BadRun" (.own "BadDeed") false) rfl
theorem x_355 : (Fx.xis "BadRecord" (.own "BadDeed") false).ok K = true := T.c.z.y.fact 355 (f := .xis "BadRecord" (.own "BadDeed") false) rfl
theorem x_356 : (Fx.xis "BadRacks" (.own "BadDeed") false).ok K = true := T.c.z.y.fact 356 (f := .xis "BadRacks" (.own "BadDeed") false) rfl
theorem x_357 : (Fx.xis "BadQuota" (.own "BadDeed") false).ok K = true := T.c.z.y.fact 357 (f := .xis "BadQuota" (.own "BadDeed") false) rfl
theorem x_358 : (Fx.xis "BadPrices" (.own "BadDeed") false).ok K = true := T.c.z.y.fact 358 (f := .xis "BadPrices" (.own "BadDeed") false) rfl
theorem x_359 : (Fx.xis "BadPlace" (.own "BadDeed") false).ok K = true := T.c.z.y.fact 359 (f := .xis "BadPlace" (.own "BadDeed") false) rfl
theorem x_360 : (Fx.xis "BadMachine" (.own "BadDeed") false).ok K = true := T.c.z.y.fact 360 (f := .xis "BadMachine" (.own "BadDeed") false) rfl
theorem x_361 : (Fx.xis "BadLot" (.own "BadDeed") false).ok K = true := T.c.z.y.fact 361 (f := .xis "BadLot" (.own "BadDeed") false) rfl
theorem x_362 : (Fx.xis "BadLog" (.own "BadDeed") false).ok K = true := T.c.z.y.fact 362 (f := .xis "BadLog" (.own "BadDeed") false) rfl
theorem x_363 : (Fx.xis "BadLeft" (.own "BadDeed") false).ok K = true := T.c.z.y.fact 363 (f := .xis "BadLeft" (.own "BadDeed") false) rfl
theorem x_364 : (Fx.xis "BadJournal" (.own "BadDeed") false).ok K = true := T.c.z.y.fact 364 (f := .xis "BadJournal" (.own "BadDeed") false) rfl
theorem x_365 : (Fx.xis "BadIndex" (.own "BadDeed") false).ok K = true := T.c.z.y.fact 365 (f := .xis "BadIndex" (.own "BadDeed") false) rfl
theorem x_366 : (Fx.xis "BadHand" (.own "BadDeed") false).ok K = true := T.c.z.y.fact 366 (f := .xis "BadHand" (.own "BadDeed") false) rfl
theorem x_367 : (Fx.xis "BadFamily" (.own "BadDeed") false).ok K = true := T.c.z.y.fact 367 (f := .xis "BadFamily" (.own "BadDeed") false) rfl
theorem x_368 : (Fx.xis "BadFalls" (.own "BadDeed") false).ok K = true := T.c.z.y.fact 368 (f := .xis "BadFalls" (.own "BadDeed") false) rfl
theorem x_369 : (Fx.xis "BadEntries" (.own "BadDeed") false).ok K = true := T.c.z.y.fact 369 (f := .xis "BadEntries" (.own "BadDeed") false) rfl
theorem x_370 : (Fx.xis "BadDeed" (.own "BadDeed") true).ok K = true := T.c.z.y.fact 370 (f := .xis "BadDeed" (.own "BadDeed") true) rfl
theorem x_371 : (Fx.xis "BadCourse" (.own "BadDeed") false).ok K = true := T.c.z.y.fact 371 (f := .xis "BadCourse" (.own "BadDeed") false) rfl
theorem x_372 : (Fx.xis "BadCount" (.own "BadDeed") false).ok K = true := T.c.z.y.fact 372 (f := .xis "BadCount" (.own "BadDeed") false) rfl
theorem x_373 : (Fx.xis "BadBook" (.own "BadDeed") false).ok K = true := T.c.z.y.fact 373 (f := .xis "BadBook" (.own "BadDeed") false) rfl
theorem x_374 : (Fx.kits (.own "BadFalls") [("NoneType", false), ("bool", false), ("int", false), ("str", false), ("tuple", false), ("list", false), ("dict", false)]).ok K = true := T.c.z.y.fact 374 (f := .kits (.own "BadFalls") [("NoneType", false), ("bool", false), ("int", false), ("str", false), ("tuple", false), ("list", false), ("dict", false)]) rfl
theorem x_375 : (Fx.xis "OtherMachines" (.own "BadFalls") false).ok K = true := T.c.z.y.fact 375 (f := .xis "OtherMachines" (.own "BadFalls") false) rfl
theorem x_376 : (Fx.xis "NothingDone" (.own "BadFalls") false).ok K = true := T.c.z.y.fact 376 (f := .xis "NothingDone" (.own "BadFalls") false) rfl
theorem x_377 : (Fx.xis "NotRight" (.own "BadFalls") false).ok K = true := T.c.z.y.fact 377 (f := .xis "NotRight" (.own "BadFalls") false) rfl
theorem x_378 : (Fx.xis "NotNewest" (.own "BadFalls") false).ok K = true := T.c.z.y.fact 378 (f := .xis "NotNewest" (.own "BadFalls") false) rfl
theorem x_379 : (Fx.xis "NoTalk" (.own "BadFalls") false).ok K = true := T.c.z.y.fact 379 (f := .xis "NoTalk" (.own "BadFalls") false) rfl
theorem x_380 : (Fx.xis "NoLots" (.own "BadFalls") false).ok K = true := T.c.z.y.fact 380 (f := .xis "NoLots" (.own "BadFalls") false) rfl
theorem x_381 : (Fx.xis "CutOff" (.own "BadFalls") false).ok K = true := T.c.z.y.fact 381 (f := .xis "CutOff" (.own "BadFalls") false) rfl
theorem x_382 : (Fx.xis "BadWeights" (.own "BadFalls") false).ok K = true := T.c.z.y.fact 382 (f := .xis "BadWeights" (.own "BadFalls") false) rfl
theorem x_383 : (Fx.xis "BadTold" (.own "BadFalls") false).ok K = true := T.c.z.y.fact 383 (f := .xis "BadTold" (.own "BadFalls") false) rfl
theorem x_384 : (Fx.xis "BadText" (.own "BadFalls") false).ok K = true := T.c.z.y.fact 384 (f := .xis "BadText" (.own "BadFalls") false) rfl
theorem x_385 : (Fx.xis "BadStanding" (.own "BadFalls") false).ok K = true := T.c.z.y.fact 385 (f := .xis "BadStanding" (.own "BadFalls") false) rfl
theorem x_386 : (Fx.xis "BadStages" (.own "BadFalls") false).ok K = true := T.c.z.y.fact 386 (f := .xis "BadStages" (.own "BadFalls") false) rfl
theorem x_387 : (Fx.xis "BadSpread" (.own "BadFalls") false).ok K = true := T.c.z.y.fact 387 (f := .xis "BadSpread" (.own "BadFalls") false) rfl
theorem x_388 : (Fx.xis "BadRun" (.own "BadFalls") false).ok K = true := T.c.z.y.fact 388 (f := .xis "BadRun" (.own "BadFalls") false) rfl
theorem x_389 : (Fx.xis "BadRecord" (.own "BadFalls") false).ok K = true := T.c.z.y.fact 389 (f := .xis "BadRecord" (.own "BadFalls") false) rfl
theorem x_390 : (Fx.xis "BadRacks" (.own "BadFalls") false).ok K = true := T.c.z.y.fact 390 (f := .xis "BadRacks" (.own "BadFalls") false) rfl
theorem x_391 : (Fx.xis "BadQuota" (.own "BadFalls") false).ok K = true := T.c.z.y.fact 391 (f := .xis "BadQuota" (.own "BadFalls") false) rfl
theorem x_392 : (Fx.xis "BadPrices" (.own "BadFalls") false).ok K = true := T.c.z.y.fact 392 (f := .xis "BadPrices" (.own "BadFalls") false) rfl
theorem x_393 : (Fx.xis "BadPlace" (.own "BadFalls") false).ok K = true := T.c.z.y.fact 393 (f := .xis "BadPlace" (.own "BadFalls") false) rfl
theorem x_394 : (Fx.xis "BadMachine" (.own "BadFalls") false).ok K = true := T.c.z.y.fact 394 (f := .xis "BadMachine" (.own "BadFalls") false) rfl
theorem x_395 : (Fx.xis "BadLot" (.own "BadFalls") false).ok K = true := T.c.z.y.fact 395 (f := .xis "BadLot" (.own "BadFalls") false) rfl
theorem x_396 : (Fx.xis "BadLog" (.own "BadFalls") false).ok K = true := T.c.z.y.fact 396 (f := .xis "BadLog" (.own "BadFalls") false) rfl
theorem x_397 : (Fx.xis "BadLeft" (.own "BadFalls") false).ok K = true := T.c.z.y.fact 397 (f := .xis "BadLeft" (.own "BadFalls") false) rfl
theorem x_398 : (Fx.xis "BadJournal" (.own "BadFalls") false).ok K = true := T.c.z.y.fact 398 (f := .xis "BadJournal" (.own "BadFalls") false) rfl
theorem x_399 : (Fx.xis "BadIndex" (.own "BadFalls") false).ok K = true := T.c.z.y.fact 399 (f := .xis "BadIndex" (.own "BadFalls") false) rfl
theorem x_400 : (Fx.xis "BadHand" (.own "BadFalls") false).ok K = true := T.c.z.y.fact 400 (f := .xis "BadHand" (.own "BadFalls") false) rfl
theorem x_401 : (Fx.xis "BadFamily" (.own "BadFalls") false).ok K = true := T.c.z.y.fact 401 (f := .xis "BadFamily" (.own "BadFalls") false) rfl
theorem x_402 : (Fx.xis "BadFalls" (.own "BadFalls") true).ok K = true := T.c.z.y.fact 402 (f := .xis "BadFalls" (.own "BadFalls") true) rfl
theorem x_403 : (Fx.xis "BadEntries" (.own "BadFalls") false).ok K = true := T.c.z.y.fact 403 (f := .xis "BadEntries" (.own "BadFalls") false) rfl
theorem x_404 : (Fx.xis "BadDeed" (.own "BadFalls") false).ok K = true := T.c.z.y.fact 404 (f := .xis "BadDeed" (.own "BadFalls") false) rfl
theorem x_405 : (Fx.xis "BadCourse" (.own "BadFalls") false).ok K = true := T.c.z.y.fact 405 (f := .xis "BadCourse" (.own "BadFalls") false) rfl
theorem x_406 : (Fx.xis "BadCount" (.own "BadFalls") false).ok K = true := T.c.z.y.fact 406 (f := .xis "BadCount" (.own "BadFalls") false) rfl
theorem x_407 : (Fx.xis "BadBook" (.own "BadFalls") false).ok K = true := T.c.z.y.fact 407 (f := .xis "BadBook" (.own "BadFalls") false) rfl
theorem x_408 : (Fx.kits (.own "BadStages") [("NoneType", false), ("bool", false), ("int", false), ("str", false), ("tuple", false), ("list", false), ("dict", false)]).ok K = true := T.c.z.y.fact 408 (f := .kits (.own "BadStages") [("NoneType", false), ("bool", false), ("int", false), ("str", false), ("tuple", false), ("list", false), ("dict", false)]) rfl
theorem x_409 : (Fx.xis "OtherMachines" (.own "BadStages") false).ok K = true := T.c.z.y.fact 409 (f := .xis "OtherMachines" (.own "BadStages") false) rfl
theorem x_410 : (Fx.xis "NothingDone" (.own "BadStages") false).ok K = true := T.c.z.y.fact 410 (f := .xis "NothingDone" (.own "BadStages") false) rfl
theorem x_411 : (Fx.xis "NotRight" (.own "BadStages") false).ok K = true := T.c.z.y.fact 411 (f := .xis "NotRight" (.own "BadStages") false) rfl
theorem x_412 : (Fx.xis "NotNewest" (.own "BadStages") false).ok K = true := T.c.z.y.fact 412 (f := .xis "NotNewest" (.own "BadStages") false) rfl
theorem x_413 : (Fx.xis "NoTalk" (.own "BadStages") false).ok K = true := T.c.z.y.fact 413 (f := .xis "NoTalk" (.own "BadStages") false) rfl
theorem x_414 : (Fx.xis "NoLots" (.own "BadStages") false).ok K = true := T.c.z.y.fact 414 (f := .xis "NoLots" (.own "BadStages") false) rfl
theorem x_415 : (Fx.xis "CutOff" (.own "BadStages") false).ok K = true := T.c.z.y.fact 415 (f := .xis "CutOff" (.own "BadStages") false) rfl
theorem x_416 : (Fx.xis "BadWeights" (.own "BadStages") false).ok K = true := T.c.z.y.fact 416 (f := .xis "BadWeights" (.own "BadStages") false) rfl
theorem x_417 : (Fx.xis "BadTold" (.own "BadStages") false).ok K = true := T.c.z.y.fact 417 (f := .xis "BadTold" (.own "BadStages") false) rfl
theorem x_418 : (Fx.xis "BadText" (.own "BadStages") false).ok K = true := T.c.z.y.fact 418 (f := .xis "BadText" (.own "BadStages") false) rfl
theorem x_419 : (Fx.xis "BadStanding" (.own "BadStages") false).ok K = true := T.c.z.y.fact 419 (f := .xis "BadStanding" (.own "BadStages") false) rfl
theorem x_420 : (Fx.xis "BadStages" (.own "BadStages") true).ok K = true := T.c.z.y.fact 420 (f := .xis "BadStages" (.own "BadStages") true) rfl
theorem x_421 : (Fx.xis "BadSpread" (.own "BadStages") false).ok K = true := T.c.z.y.fact 421 (f := .xis "BadSpread" (.own "BadStages") false) rfl
theorem x_422 : (Fx.xis "BadRun" (.own "BadStages") false).ok K = true := T.c.z.y.fact 422 (f := .xis "BadRun" (.own "BadStages") false) rfl
theorem x_423 : (Fx.xis "BadRecord" (.own "BadStages") false).ok K = true := T.c.z.y.fact 423 (f := .xis "BadRecord" (.own "BadStages") false) rfl
theorem x_424 : (Fx.xis "BadRacks" (.own "BadStages") false).ok K = true := T.c.z.y.fact 424 (f := .xis "BadRacks" (.own "BadStages") false) rfl
theorem x_425 : (Fx.xis "BadQuota" (.own "BadStages") false).ok K = true := T.c.z.y.fact 425 (f := .xis "BadQuota" (.own "BadStages") false) rfl
theorem x_426 : (Fx.xis "BadPrices" (.own "BadStages") false).ok K = true := T.c.z.y.fact 426 (f := .xis "BadPrices" (.own "BadStages") false) rfl
theorem x_427 : (Fx.xis "BadPlace" (.own "BadStages") false).ok K = true := T.c.z.y.fact 427 (f := .xis "BadPlace" (.own "BadStages") false) rfl
theorem x_428 : (Fx.xis "BadMachine" (.own "BadStages") false).ok K = true := T.c.z.y.fact 428 (f := .xis "BadMachine" (.own "BadStages") false) rfl
theorem x_429 : (Fx.xis "BadLot" (.own "BadStages") false).ok K = true := T.c.z.y.fact 429 (f := .xis "BadLot" (.own "BadStages") false) rfl
theorem x_430 : (Fx.xis "BadLog" (.own "BadStages") false).ok K = true := T.c.z.y.fact 430 (f := .xis "BadLog" (.own "BadStages") false) rfl
theorem x_431 : (Fx.xis "BadLeft" (.own "BadStages") false).ok K = true := T.c.z.y.fact 431 (f := .xis "BadLeft" (.own "BadStages") false) rfl
theorem x_432 : (Fx.xis "BadJournal" (.own "BadStages") false).ok K = true := T.c.z.y.fact 432 (f := .xis "BadJournal" (.own "BadStages") false) rfl
theorem x_433 : (Fx.xis "BadIndex" (.own "BadStages") false).ok K = true := T.c.z.y.fact 433 (f := .xis "BadIndex" (.own "BadStages") false) rfl
theorem x_434 : (Fx.xis "BadHand" (.own "BadStages") false).ok K = true := T.c.z.y.fact 434 (f := .xis "BadHand" (.own "BadStages") false) rfl
theorem x_435 : (Fx.xis "BadFamily" (.own "BadStages") false).ok K = true := T.c.z.y.fact 435 (f := .xis "BadFamily" (.own "BadStages") false) rfl
theorem x_436 : (Fx.xis "BadFalls" (.own "BadStages") false).ok K = true := T.c.z.y.fact 436 (f := .xis "BadFalls" (.own "BadStages") false) rfl
theorem x_437 : (Fx.xis "BadEntries" (.own "BadStages") false).ok K = true := T.c.z.y.fact 437 (f := .xis "BadEntries" (.own "BadStages") false) rfl
theorem x_438 : (Fx.xis "BadDeed" (.own "BadStages") false).ok K = true := T.c.z.y.fact 438 (f := .xis "BadDeed" (.own "BadStages") false) rfl
theorem x_439 : (Fx.xis "BadCourse" (.own "BadStages") false).ok K = true := T.c.z.y.fact 439 (f := .xis "BadCourse" (.own "BadStages") false) rfl
theorem x_440 : (Fx.xis "BadCount" (.own "BadStages") false).ok K = true := T.c.z.y.fact 440 (f := .xis "BadCount" (.own "BadStages") false) rfl
theorem x_441 : (Fx.xis "BadBook" (.own "BadStages") false).ok K = true := T.c.z.y.fact 441 (f := .xis "BadBook" (.own "BadStages") false) rfl
theorem x_442 : (Fx.kits (.own "BadIndex") [("NoneType", false), ("bool", false), ("int", false), ("str", false), ("tuple", false), ("list", false), ("dict", false)]).ok K = true := T.c.z.y.fact 442 (f := .kits (.own "BadIndex") [("NoneType", false), ("bool", false), ("int", false), ("str", false), ("tuple", false), ("list", false), ("dict", false)]) rfl
theorem x_443 : (Fx.xis "OtherMachines" (.own "BadIndex") false).ok K = true := T.c.z.y.fact 443 (f := .xis "OtherMachines" (.own "BadIndex") false) rfl
theorem x_444 : (Fx.xis "NothingDone" (.own "BadIndex") false).ok K = true := T.c.z.y.fact 444 (f := .xis "NothingDone" (.own "BadIndex") false) rfl
theorem x_445 : (Fx.xis "NotRight" (.own "BadIndex") false).ok K = true := T.c.z.y.fact 445 (f := .xis "NotRight" (.own "BadIndex") false) rfl
theorem x_446 : (Fx.xis "NotNewest" (.own "BadIndex") false).ok K = true := T.c.z.y.fact 446 (f := .xis "NotNewest" (.own "BadIndex") false) rfl
theorem x_447 : (Fx.xis "NoTalk" (.own "BadIndex") false).ok K = true := T.c.z.y.fact 447 (f := .xis "NoTalk" (.own "BadIndex") false) rfl
theorem x_448 : (Fx.xis "NoLots" (.own "BadIndex") false).ok K = true := T.c.z.y.fact 448 (f := .xis "NoLots" (.own "BadIndex") false) rfl
theorem x_449 : (Fx.xis "CutOff" (.own "BadIndex") false).ok K = true := T.c.z.y.fact 449 (f := .xis "CutOff" (.own "BadIndex") false) rfl
theorem x_450 : (Fx.xis "BadWeights" (.own "BadIndex") false).ok K = true := T.c.z.y.fact 450 (f := .xis "BadWeights" (.own "BadIndex") false) rfl
theorem x_451 : (Fx.xis "BadTold" (.own "BadIndex") false).ok K = true := T.c.z.y.fact 451 (f := .xis "BadTold" (.own "BadIndex") false) rfl
theorem x_452 : (Fx.xis "BadText" (.own "BadIndex") false).ok K = true := T.c.z.y.fact 452 (f := .xis "BadText" (.own "BadIndex") false) rfl
theorem x_453 : (Fx.xis "BadStanding" (.own "BadIndex") false).ok K = true := T.c.z.y.fact 453 (f := .xis "BadStanding" (.own "BadIndex") false) rfl
theorem x_454 : (Fx.xis "BadStages" (.own "BadIndex") false).ok K = true := T.c.z.y.fact 454 (f := .xis "BadStages" (.own "BadIndex") false) rfl
theorem x_455 : (Fx.xis "BadSpread" (.own "BadIndex") false).ok K = true := T.c.z.y.fact 455 (f := .xis "BadSpread" (.own "BadIndex") false) rfl
theorem x_456 : (Fx.xis "BadRun" (.own "BadIndex") false).ok K = true := T.c.z.y.fact 456 (f := .xis "BadRun" (.own "BadIndex") false) rfl
theorem x_457 : (Fx.xis "BadRecord" (.own "BadIndex") false).ok K = true := T.c.z.y.fact 457 (f := .xis "BadRecord" (.own "BadIndex") false) rfl
theorem x_458 : (Fx.xis "BadRacks" (.own "BadIndex") false).ok K = true := T.c.z.y.fact 458 (f := .xis "BadRacks" (.own "BadIndex") false) rfl
theorem x_459 : (Fx.xis "BadQuota" (.own "BadIndex") false).ok K = true := T.c.z.y.fact 459 (f := .xis "BadQuota" (.own "BadIndex") false) rfl
theorem x_460 : (Fx.xis "BadPrices" (.own "BadIndex") false).ok K = true := T.c.z.y.fact 460 (f := .xis "BadPrices" (.own "BadIndex") false) rfl
theorem x_461 : (Fx.xis "BadPlace" (.own "BadIndex") false).ok K = true := T.c.z.y.fact 461 (f := .xis "BadPlace" (.own "BadIndex") false) rfl
theorem x_462 : (Fx.xis "BadMachine" (.own "BadIndex") false).ok K = true := T.c.z.y.fact 462 (f := .xis "BadMachine" (.own "BadIndex") false) rfl
theorem x_463 : (Fx.xis "BadLot" (.own "BadIndex") false).ok K = true := T.c.z.y.fact 463 (f := .xis "BadLot" (.own "BadIndex") false) rfl
theorem x_464 : (Fx.xis "BadLog" (.own "BadIndex") false).ok K = true := T.c.z.y.fact 464 (f := .xis "BadLog" (.own "BadIndex") false) rfl
theorem x_465 : (Fx.xis "BadLeft" (.own "BadIndex") false).ok K = true := T.c.z.y.fact 465 (f := .xis "BadLeft" (.own "BadIndex") false) rfl
theorem x_466 : (Fx.xis "BadJournal" (.own "BadIndex") false).ok K = true := T.c.z.y.fact 466 (f := .xis "BadJournal" (.own "BadIndex") false) rfl
theorem x_467 : (Fx.xis "BadIndex" (.own "BadIndex") true).ok K = true := T.c.z.y.fact 467 (f := .xis "BadIndex" (.own "BadIndex") true) rfl
theorem x_468 : (Fx.xis "BadHand" (.own "BadIndex") false).ok K = true := T.c.z.y.fact 468 (f := .xis "BadHand" (.own "BadIndex") false) rfl
theorem x_469 : (Fx.xis "BadFamily" (.own "BadIndex") false).ok K = true := T.c.z.y.fact 469 (f := .xis "BadFamily" (.own "BadIndex") false) rfl
theorem x_470 : (Fx.xis "BadFalls" (.own "BadIndex") false).ok K = true := T.c.z.y.fact 470 (f := .xis "BadFalls" (.own "BadIndex") false) rfl
theorem x_471 : (Fx.xis "BadEntries" (.own "BadIndex") false).ok K = true := T.c.z.y.fact 471 (f := .xis "BadEntries" (.own "BadIndex") false) rfl
theorem x_472 : (Fx.xis "BadDeed" (.own "BadIndex") false).ok K = true := T.c.z.y.fact 472 (f := .xis "BadDeed" (.own "BadIndex") false) rfl
theorem x_473 : (Fx.xis "BadCourse" (.own "BadIndex") false).ok K = true := T.c.z.y.fact 473 (f := .xis "BadCourse" (.own "BadIndex") false) rfl
theorem x_474 : (Fx.xis "BadCount" (.own "BadIndex") false).ok K = true := T.c.z.y.fact 474 (f := .xis "BadCount" (.own "BadIndex") false) rfl
theorem x_475 : (Fx.xis "BadBook" (.own "BadIndex") false).ok K = true := T.c.z.y.fact 475 (f := .xis "BadBook" (.own "BadIndex") false) rfl
theorem x_476 : (Fx.kits (.own "BadPlace") [("NoneType", false), ("bool", false), ("int", false), ("str", false), ("tuple", false), ("list", false), ("dict", false)]).ok K = true := T.c.z.y.fact 476 (f := .kits (.own "BadPlace") [("NoneType", false), ("bool", false), ("int", false), ("str", false), ("tuple", false), ("list", false), ("dict", false)]) rfl
theorem x_477 : (Fx.xis "OtherMachines" (.own "BadPlace") false).ok K = true := T.c.z.y.fact 477 (f := .xis "OtherMachines" (.own "BadPlace") false) rfl
theorem x_478 : (Fx.xis "NothingDone" (.own "BadPlace") false).ok K = true := T.c.z.y.fact 478 (f := .xis "NothingDone" (.own "BadPlace") false) rfl
theorem x_479 : (Fx.xis "NotRight" (.own "BadPlace") false).ok K = true := T.c.z.y.fact 479 (f := .xis "NotRight" (.own "BadPlace") false) rfl
theorem x_480 : (Fx.xis "NotNewest" (.own "BadPlace") false).ok K = true := T.c.z.y.fact 480 (f := .xis "NotNewest" (.own "BadPlace") false) rfl
theorem x_481 : (Fx.xis "NoTalk" (.own "BadPlace") false).ok K = true := T.c.z.y.fact 481 (f := .xis "NoTalk" (.own "BadPlace") false) rfl
theorem x_482 : (Fx.xis "NoLots" (.own "BadPlace") false).ok K = true := T.c.z.y.fact 482 (f := .xis "NoLots" (.own "BadPlace") false) rfl
theorem x_483 : (Fx.xis "CutOff" (.own "BadPlace") false).ok K = true := T.c.z.y.fact 483 (f := .xis "CutOff" (.own "BadPlace") false) rfl
theorem x_484 : (Fx.xis "BadWeights" (.own "BadPlace") false).ok K = true := T.c.z.y.fact 484 (f := .xis "BadWeights" (.own "BadPlace") false) rfl
theorem x_485 : (Fx.xis "BadTold" (.own "BadPlace") false).ok K = true := T.c.z.y.fact 485 (f := .xis "BadTold" (.own "BadPlace") false) rfl
theorem x_486 : (Fx.xis "BadText" (.own "BadPlace") false).ok K = true := T.c.z.y.fact 486 (f := .xis "BadText" (.own "BadPlace") false) rfl
theorem x_487 : (Fx.xis "BadStanding" (.own "BadPlace") false).ok K = true := T.c.z.y.fact 487 (f := .xis "BadStanding" (.own "BadPlace") false) rfl
theorem x_488 : (Fx.xis "BadStages" (.own "BadPlace") false).ok K = true := T.c.z.y.fact 488 (f := .xis "BadStages" (.own "BadPlace") false) rfl
theorem x_489 : (Fx.xis "BadSpread" (.own "BadPlace") false).ok K = true := T.c.z.y.fact 489 (f := .xis "BadSpread" (.own "BadPlace") false) rfl
theorem x_490 : (Fx.xis "BadRun" (.own "BadPlace") false).ok K = true := T.c.z.y.fact 490 (f := .xis "BadRun" (.own "BadPlace") false) rfl
theorem x_491 : (Fx.xis "BadRecord" (.own "BadPlace") false).ok K = true := T.c.z.y.fact 491 (f := .xis "BadRecord" (.own "BadPlace") false) rfl
theorem x_492 : (Fx.xis "BadRacks" (.own "BadPlace") false).ok K = true := T.c.z.y.fact 492 (f := .xis "BadRacks" (.own "BadPlace") false) rfl
theorem x_493 : (Fx.xis "BadQuota" (.own "BadPlace") false).ok K = true := T.c.z.y.fact 493 (f := .xis "BadQuota" (.own "BadPlace") false) rfl
theorem x_494 : (Fx.xis "BadPrices" (.own "BadPlace") false).ok K = true := T.c.z.y.fact 494 (f := .xis "BadPrices" (.own "BadPlace") false) rfl
theorem x_495 : (Fx.xis "BadPlace" (.own "BadPlace") true).ok K = true := T.c.z.y.fact 495 (f := .xis "BadPlace" (.own "BadPlace") true) rfl
theorem x_496 : (Fx.xis "BadMachine" (.own "BadPlace") false).ok K = true := T.c.z.y.fact 496 (f := .xis "BadMachine" (.own "BadPlace") false) rfl
theorem x_497 : (Fx.xis "BadLot" (.own "BadPlace") false).ok K = true := T.c.z.y.fact 497 (f := .xis "BadLot" (.own "BadPlace") false) rfl
theorem x_498 : (Fx.xis "BadLog" (.own "BadPlace") false).ok K = true := T.c.z.y.fact 498 (f := .xis "BadLog" (.own "BadPlace") false) rfl
theorem x_499 : (Fx.xis "BadLeft" (.own "BadPlace") false).ok K = true := T.c.z.y.fact 499 (f := .xis "BadLeft" (.own "BadPlace") false) rfl
theorem x_500 : (Fx.xis "BadJournal" (.own "BadPlace") false).ok K = true := T.c.z.y.fact 500 (f := .xis "BadJournal" (.own "BadPlace") false) rfl
theorem x_501 : (Fx.xis "BadIndex" (.own "BadPlace") false).ok K = true := T.c.z.y.fact 501 (f := .xis "BadIndex" (.own "BadPlace") false) rfl
theorem x_502 : (Fx.xis "BadHand" (.own "BadPlace") false).ok K = true := T.c.z.y.fact 502 (f := .xis "BadHand" (.own "BadPlace") false) rfl
theorem x_503 : (Fx.xis "BadFamily" (.own "BadPlace") false).ok K = true := T.c.z.y.fact 503 (f := .xis "BadFamily" (.own "BadPlace") false) rfl
theorem x_504 : (Fx.xis "BadFalls" (.own "BadPlace") false).ok K = true := T.c.z.y.fact 504 (f := .xis "BadFalls" (.own "BadPlace") false) rfl
theorem x_505 : (Fx.xis "BadEntries" (.own "BadPlace") false).ok K = true := T.c.z.y.fact 505 (f := .xis "BadEntries" (.own "BadPlace") false) rfl
theorem x_506 : (Fx.xis "BadDeed" (.own "BadPlace") false).ok K = true := T.c.z.y.fact 506 (f := .xis "BadDeed" (.own "BadPlace") false) rfl
theorem x_507 : (Fx.xis "BadCourse" (.own "BadPlace") false).ok K = true := T.c.z.y.fact 507 (f := .xis "BadCourse" (.own "BadPlace") false) rfl
theorem x_508 : (Fx.xis "BadCount" (.own "BadPlace") false).ok K = true := T.c.z.y.fact 508 (f := .xis "BadCount" (.own "BadPlace") false) rfl
theorem x_509 : (Fx.xis "BadBook" (.own "BadPlace") false).ok K = true := T.c.z.y.fact 509 (f := .xis "BadBook" (.own "BadPlace") false) rfl
theorem x_510 : (Fx.kits (.own "NoTalk") [("NoneType", false), ("bool", false), ("int", false), ("str", false), ("tuple", false), ("list", false), ("dict", false)]).ok K = true := T.c.z.y.fact 510 (f := .kits (.own "NoTalk") [("NoneType", false), ("bool", false), ("int", false), ("str", false), ("tuple", false), ("list", false), ("dict", false)]) rfl
theorem x_511 : (Fx.xis "OtherMachines" (.own "NoTalk") false).ok K = true := T.c.z.y.fact 511 (f := .xis "OtherMachines" (.own "NoTalk") false) rfl
theorem x_512 : (Fx.xis "NothingDone" (.own "NoTalk") false).ok K = true := T.c.z.y.fact 512 (f := .xis "NothingDone" (.own "NoTalk") false) rfl
theorem x_513 : (Fx.xis "NotRight" (.own "NoTalk") false).ok K = true := T.c.z.y.fact 513 (f := .xis "NotRight" (.own "NoTalk") false) rfl
theorem x_514 : (Fx.xis "NotNewest" (.own "NoTalk") false).ok K = true := T.c.z.y.fact 514 (f := .xis "NotNewest" (.own "NoTalk") false) rfl
theorem x_515 : (Fx.xis "NoTalk" (.own "NoTalk") true).ok K = true := T.c.z.y.fact 515 (f := .xis "NoTalk" (.own "NoTalk") true) rfl
theorem x_516 : (Fx.xis "NoLots" (.own "NoTalk") false).ok K = true := T.c.z.y.fact 516 (f := .xis "NoLots" (.own "NoTalk") false) rfl
theorem x_517 : (Fx.xis "CutOff" (.own "NoTalk") false).ok K = true := T.c.z.y.fact 517 (f := .xis "CutOff" (.own "NoTalk") false) rfl
theorem x_518 : (Fx.xis "BadWeights" (.own "NoTalk") false).ok K = true := T.c.z.y.fact 518 (f := .xis "BadWeights" (.own "NoTalk") false) rfl
theorem x_519 : (Fx.xis "BadTold" (.own "NoTalk") false).ok K = true := T.c.z.y.fact 519 (f := .xis "BadTold" (.own "NoTalk") false) rfl
theorem x_520 : (Fx.xis "BadText" (.own "NoTalk") false).ok K = true := T.c.z.y.fact 520 (f := .xis "BadText" (.own "NoTalk") false) rfl
theorem x_521 : (Fx.xis "BadStanding" (.own "NoTalk") false).ok K = true := T.c.z.y.fact 521 (f := .xis "BadStanding" (.own "NoTalk") false) rfl
theorem x_522 : (Fx.xis "BadStages" (.own "NoTalk") false).ok K = true := T.c.z.y.fact 522 (f := .xis "BadStages" (.own "NoTalk") false) rfl
theorem x_523 : (Fx.xis "BadSpread" (.own "NoTalk") false).ok K = true := T.c.z.y.fact 523 (f := .xis "BadSpread" (.own "NoTalk") false) rfl
theorem x_524 : (Fx.xis "BadRun" (.own "NoTalk") false).ok K = true := T.c.z.y.fact 524 (f := .xis "BadRun" (.own "NoTalk") false) rfl
theorem x_525 : (Fx.xis "BadRecord" (.own "NoTalk") false).ok K = true := T.c.z.y.fact 525 (f := .xis "BadRecord" (.own "NoTalk") false) rfl
theorem x_526 : (Fx.xis "BadRacks" (.own "NoTalk") false).ok K = true := T.c.z.y.fact 526 (f := .xis "BadRacks" (.own "NoTalk") false) rfl
theorem x_527 : (Fx.xis "BadQuota" (.own "NoTalk") false).ok K = true := T.c.z.y.fact 527 (f := .xis "BadQuota" (.own "NoTalk") false) rfl
theorem x_528 : (Fx.xis "BadPrices" (.own "NoTalk") false).ok K = true := T.c.z.y.fact 528 (f := .xis "BadPrices" (.own "NoTalk") false) rfl
theorem x_529 : (Fx.xis "BadPlace" (.own "NoTalk") false).ok K = true := T.c.z.y.fact 529 (f := .xis "BadPlace" (.own "NoTalk") false) rfl
theorem x_530 : (Fx.xis "BadMachine" (.own "NoTalk") false).ok K = true := T.c.z.y.fact 530 (f := .xis "BadMachine" (.own "NoTalk") false) rfl
theorem x_531 : (Fx.xis "BadLot" (.own "NoTalk") false).ok K = true := T.c.z.y.fact 531 (f := .xis "BadLot" (.own "NoTalk") false) rfl
theorem x_532 : (Fx.xis "BadLog" (.own "NoTalk") false).ok K = true := T.c.z.y.fact 532 (f := .xis "BadLog" (.own "NoTalk") false) rfl
theorem x_533 : (Fx.xis "BadLeft" (.own "NoTalk") false).ok K = true := T.c.z.y.fact 533 (f := .xis "BadLeft" (.own "NoTalk") false) rfl
theorem x_534 : (Fx.xis "BadJournal" (.own "NoTalk") false).ok K = true := T.c.z.y.fact 534 (f := .xis "BadJournal" (.own "NoTalk") false) rfl
theorem x_535 : (Fx.xis "BadIndex" (.own "NoTalk") false).ok K = true := T.c.z.y.fact 535 (f := .xis "BadIndex" (.own "NoTalk") false) rfl
theorem x_536 : (Fx.xis "BadHand" (.own "NoTalk") false).ok K = true := T.c.z.y.fact 536 (f := .xis "BadHand" (.own "NoTalk") false) rfl
theorem x_537 : (Fx.xis "BadFamily" (.own "NoTalk") false).ok K = true := T.c.z.y.fact 537 (f := .xis "BadFamily" (.own "NoTalk") false) rfl
theorem x_538 : (Fx.xis "BadFalls" (.own "NoTalk") false).ok K = true := T.c.z.y.fact 538 (f := .xis "BadFalls" (.own "NoTalk") false) rfl
theorem x_539 : (Fx.xis "BadEntries" (.own "NoTalk") false).ok K = true := T.c.z.y.fact 539 (f := .xis "BadEntries" (.own "NoTalk") false) rfl
theorem x_540 : (Fx.xis "BadDeed" (.own "NoTalk") false).ok K = true := T.c.z.y.fact 540 (f := .xis "BadDeed" (.own "NoTalk") false) rfl
theorem x_541 : (Fx.xis "BadCourse" (.own "NoTalk") false).ok K = true := T.c.z.y.fact 541 (f := .xis "BadCourse" (.own "NoTalk") false) rfl
theorem x_542 : (Fx.xis "BadCount" (.own "NoTalk") false).ok K = true := T.c.z.y.fact 542 (f := .xis "BadCount" (.own "NoTalk") false) rfl
theorem x_543 : (Fx.xis "BadBook" (.own "NoTalk") false).ok K = true := T.c.z.y.fact 543 (f := .xis "BadBook" (.own "NoTalk") false) rfl
theorem x_544 : (Fx.kits (.own "CutOff") [("NoneType", false), ("bool", false), ("int", false), ("str", false), ("tuple", false), ("list", false), ("dict", false)]).ok K = true := T.c.z.y.fact 544 (f := .kits (.own "CutOff") [("NoneType", false), ("bool", false), ("int", false), ("str", false), ("tuple", false), ("list", false), ("dict", false)]) rfl
theorem x_545 : (Fx.xis "OtherMachines" (.own "CutOff") false).ok K = true := T.c.z.y.fact 545 (f := .xis "OtherMachines" (.own "CutOff") false) rfl
theorem x_546 : (Fx.xis "NothingDone" (.own "CutOff") false).ok K = true := T.c.z.y.fact 546 (f := .xis "NothingDone" (.own "CutOff") false) rfl
theorem x_547 : (Fx.xis "NotRight" (.own "CutOff") false).ok K = true := T.c.z.y.fact 547 (f := .xis "NotRight" (.own "CutOff") false) rfl
theorem x_548 : (Fx.xis "NotNewest" (.own "CutOff") false).ok K = true := T.c.z.y.fact 548 (f := .xis "NotNewest" (.own "CutOff") false) rfl
theorem x_549 : (Fx.xis "NoTalk" (.own "CutOff") false).ok K = true := T.c.z.y.fact 549 (f := .xis "NoTalk" (.own "CutOff") false) rfl
theorem x_550 : (Fx.xis "NoLots" (.own "CutOff") false).ok K = true := T.c.z.y.fact 550 (f := .xis "NoLots" (.own "CutOff") false) rfl
theorem x_551 : (Fx.xis "CutOff" (.own "CutOff") true).ok K = true := T.c.z.y.fact 551 (f := .xis "CutOff" (.own "CutOff") true) rfl
theorem x_552 : (Fx.xis "BadWeights" (.own "CutOff") false).ok K = true := T.c.z.y.fact 552 (f := .xis "BadWeights" (.own "CutOff") false) rfl
theorem x_553 : (Fx.xis "BadTold" (.own "CutOff") false).ok K = true := T.c.z.y.fact 553 (f := .xis "BadTold" (.own "CutOff") false) rfl
theorem x_554 : (Fx.xis "BadText" (.own "CutOff") false).ok K = true := T.c.z.y.fact 554 (f := .xis "BadText" (.own "CutOff") false) rfl
theorem x_555 : (Fx.xis "BadStanding" (.own "CutOff") false).ok K = true := T.c.z.y.fact 555 (f := .xis "BadStanding" (.own "CutOff") false) rfl
theorem x_556 : (Fx.xis "BadStages" (.own "CutOff") false).ok K = true := T.c.z.y.fact 556 (f := .xis "BadStages" (.own "CutOff") false) rfl
theorem x_557 : (Fx.xis "BadSpread" (.own "CutOff") false).ok K = true := T.c.z.y.fact 557 (f := .xis "BadSpread" (.own "CutOff") false) rfl
theorem x_558 : (Fx.xis "BadRun" (.own "CutOff") false).ok K = true := T.c.z.y.fact 558 (f := .xis "BadRun" (.own "CutOff") false) rfl
theorem x_559 : (Fx.xis "BadRecord" (.own "CutOff") false).ok K = true := T.c.z.y.fact 559 (f := .xis "BadRecord" (.own "CutOff") false) rfl
theorem x_560 : (Fx.xis "BadRacks" (.own "CutOff") false).ok K = true := T.c.z.y.fact 560 (f := .xis "BadRacks" (.own "CutOff") false) rfl
theorem x_561 : (Fx.xis "BadQuota" (.own "CutOff") false).ok K = true := T.c.z.y.fact 561 (f := .xis "BadQuota" (.own "CutOff") false) rfl
theorem x_562 : (Fx.xis "BadPrices" (.own "CutOff") false).ok K = true := T.c.z.y.fact 562 (f := .xis "BadPrices" (.own "CutOff") false) rfl
theorem x_563 : (Fx.xis "BadPlace" (.own "CutOff") false).ok K = true := T.c.z.y.fact 563 (f := .xis "BadPlace" (.own "CutOff") false) rfl
theorem x_564 : (Fx.xis "BadMachine" (.own "CutOff") false).ok K = true := T.c.z.y.fact 564 (f := .xis "BadMachine" (.own "CutOff") false) rfl
theorem x_565 : (Fx.xis "BadLot" (.own "CutOff") false).ok K = true := T.c.z.y.fact 565 (f := .xis "BadLot" (.own "CutOff") false) rfl
theorem x_566 : (Fx.xis "BadLog" (.own "CutOff") false).ok K = true := T.c.z.y.fact 566 (f := .xis "BadLog" (.own "CutOff") false) rfl
theorem x_567 : (Fx.xis "BadLeft" (.own "CutOff") false).ok K = true := T.c.z.y.fact 567 (f := .xis "BadLeft" (.own "CutOff") false) rfl
theorem x_568 : (Fx.xis "BadJournal" (.own "CutOff") false).ok K = true := T.c.z.y.fact 568 (f := .xis "BadJournal" (.own "CutOff") false) rfl
theorem x_569 : (Fx.xis "BadIndex" (.own "CutOff") false).ok K = true := T.c.z.y.fact 569 (f := .xis "BadIndex" (.own "CutOff") false) rfl
theorem x_570 : (Fx.xis "BadHand" (.own "CutOff") false).ok K = true := T.c.z.y.fact 570 (f := .xis "BadHand" (.own "CutOff") false) rfl
theorem x_571 : (Fx.xis "BadFamily" (.own "CutOff") false).ok K = true := T.c.z.y.fact 571 (f := .xis "BadFamily" (.own "CutOff") false) rfl
theorem x_572 : (Fx.xis "BadFalls" (.own "CutOff") false).ok K = true := T.c.z.y.fact 572 (f := .xis "BadFalls" (.own "CutOff") false) rfl
theorem x_573 : (Fx.xis "BadEntries" (.own "CutOff") false).ok K = true := T.c.z.y.fact 573 (f := .xis "BadEntries" (.own "CutOff") false) rfl
theorem x_574 : (Fx.xis "BadDeed" (.own "CutOff") false).ok K = true := T.c.z.y.fact 574 (f := .xis "BadDeed" (.own "CutOff") false) rfl
theorem x_575 : (Fx.xis "BadCourse" (.own "CutOff") false).ok K = true := T.c.z.y.fact 575 (f := .xis "BadCourse" (.own "CutOff") false) rfl
theorem x_576 : (Fx.xis "BadCount" (.own "CutOff") false).ok K = true := T.c.z.y.fact 576 (f := .xis "BadCount" (.own "CutOff") false) rfl
theorem x_577 : (Fx.xis "BadBook" (.own "CutOff") false).ok K = true := T.c.z.y.fact 577 (f := .xis "BadBook" (.own "CutOff") false) rfl
theorem x_578 : (Fx.kits (.own "BadJournal") [("NoneType", false), ("bool", false), ("int", false), ("str", false), ("tuple", false), ("list", false), ("dict", false)]).ok K = true := T.c.z.y.fact 578 (f := .kits (.own "BadJournal") [("NoneType", false), ("bool", false), ("int", false), ("str", false), ("tuple", false), ("list", false), ("dict", false)]) rfl
theorem x_579 : (Fx.xis "OtherMachines" (.own "BadJournal") false).ok K = true := T.c.z.y.fact 579 (f := .xis "OtherMachines" (.own "BadJournal") false) rfl
theorem x_580 : (Fx.xis "NothingDone" (.own "BadJournal") false).ok K = true := T.c.z.y.fact 580 (f := .xis "NothingDone" (.own "BadJournal") false) rfl
theorem x_581 : (Fx.xis "NotRight" (.own "BadJournal") false).ok K = true := T.c.z.y.fact 581 (f := .xis "NotRight" (.own "BadJournal") false) rfl
theorem x_582 : (Fx.xis "NotNewest" (.own "BadJournal") false).ok K = true := T.c.z.y.fact 582 (f := .xis "NotNewest" (.own "BadJournal") false) rfl
theorem x_583 : (Fx.xis "NoTalk" (.own "BadJournal") false).ok K = true := T.c.z.y.fact 583 (f := .xis "NoTalk" (.own "BadJournal") false) rfl
theorem x_584 : (Fx.xis "NoLots" (.own "BadJournal") false).ok K = true := T.c.z.y.fact 584 (f := .xis "NoLots" (.own "BadJournal") false) rfl
theorem x_585 : (Fx.xis "CutOff" (.own "BadJournal") false).ok K = true := T.c.z.y.fact 585 (f := .xis "CutOff" (.own "BadJournal") false) rfl
theorem x_586 : (Fx.xis "BadWeights" (.own "BadJournal") false).ok K = true := T.c.z.y.fact 586 (f := .xis "BadWeights" (.own "BadJournal") false) rfl
theorem x_587 : (Fx.xis "BadTold" (.own "BadJournal") false).ok K = true := T.c.z.y.fact 587 (f := .xis "BadTold" (.own "BadJournal") false) rfl
theorem x_588 : (Fx.xis "BadText" (.own "BadJournal") false).ok K = true := T.c.z.y.fact 588 (f := .xis "BadText" (.own "BadJournal") false) rfl
theorem x_589 : (Fx.xis "BadStanding" (.own "BadJournal") false).ok K = true := T.c.z.y.fact 589 (f := .xis "BadStanding" (.own "BadJournal") false) rfl
theorem x_590 : (Fx.xis "BadStages" (.own "BadJournal") false).ok K = true := T.c.z.y.fact 590 (f := .xis "BadStages" (.own "BadJournal") false) rfl
theorem x_591 : (Fx.xis "BadSpread" (.own "BadJournal") false).ok K = true := T.c.z.y.fact 591 (f := .xis "BadSpread" (.own "BadJournal") false) rfl
theorem x_592 : (Fx.xis "BadRun" (.own "BadJournal") false).ok K = true := T.c.z.y.fact 592 (f := .xis "BadRun" (.own "BadJournal") false) rfl
theorem x_593 : (Fx.xis "BadRecord" (.own "BadJournal") false).ok K = true := T.c.z.y.fact 593 (f := .xis "BadRecord" (.own "BadJournal") false) rfl
theorem x_594 : (Fx.xis "BadRacks" (.own "BadJournal") false).ok K = true := T.c.z.y.fact 594 (f := .xis "BadRacks" (.own "BadJournal") false) rfl
theorem x_595 : (Fx.xis "BadQuota" (.own "BadJournal") false).ok K = true := T.c.z.y.fact 595 (f := .xis "BadQuota" (.own "BadJournal") false) rfl
theorem x_596 : (Fx.xis "BadPrices" (.own "BadJournal") false).ok K = true := T.c.z.y.fact 596 (f := .xis "BadPrices" (.own "BadJournal") false) rfl
theorem x_597 : (Fx.xis "BadPlace" (.own "BadJournal") false).ok K = true := T.c.z.y.fact 597 (f := .xis "BadPlace" (.own "BadJournal") false) rfl
theorem x_598 : (Fx.xis "BadMachine" (.own "BadJournal") false).ok K = true := T.c.z.y.fact 598 (f := .xis "BadMachine" (.own "BadJournal") false) rfl
theorem x_599 : (Fx.xis "BadLot" (.own "BadJournal") false).ok K = true := T.c.z.y.fact 599 (f := .xis "BadLot" (.own "BadJournal") false) rfl
theorem x_600 : (Fx.xis "BadLog" (.own "BadJournal") false).ok K = true := T.c.z.y.fact 600 (f := .xis "BadLog" (.own "BadJournal") false) rfl
theorem x_601 : (Fx.xis "BadLeft" (.own "BadJournal") false).ok K = true := T.c.z.y.fact 601 (f := .xis "BadLeft" (.own "BadJournal") false) rfl
theorem x_602 : (Fx.xis "BadJournal" (.own "BadJournal") true).ok K = true := T.c.z.y.fact 602 (f := .xis "BadJournal" (.own "BadJournal") true) rfl
theorem x_603 : (Fx.xis "BadIndex" (.own "BadJournal") false).ok K = true := T.c.z.y.fact 603 (f := .xis "BadIndex" (.own "BadJournal") false) rfl
theorem x_604 : (Fx.xis "BadHand" (.own "BadJournal") false).ok K = true := T.c.z.y.fact 604 (f := .xis "BadHand" (.own "BadJournal") false) rfl
theorem x_605 : (Fx.xis "BadFamily" (.own "BadJournal") false).ok K = true := T.c.z.y.fact 605 (f := .xis "BadFamily" (.own "BadJournal") false) rfl
theorem x_606 : (Fx.xis "BadFalls" (.own "BadJournal") false).ok K = true := T.c.z.y.fact 606 (f := .xis "BadFalls" (.own "BadJournal") false) rfl
theorem x_607 : (Fx.xis "BadEntries" (.own "BadJournal") false).ok K = true := T.c.z.y.fact 607 (f := .xis "BadEntries" (.own "BadJournal") false) rfl
theorem x_608 : (Fx.xis "BadDeed" (.own "BadJournal") false).ok K = true := T.c.z.y.fact 608 (f := .xis "BadDeed" (.own "BadJournal") false) rfl
theorem x_609 : (Fx.xis "BadCourse" (.own "BadJournal") false).ok K = true := T.c.z.y.fact 609 (f := .xis "BadCourse" (.own "BadJournal") false) rfl
theorem x_610 : (Fx.xis "BadCount" (.own "BadJournal") false).ok K = true := T.c.z.y.fact 610 (f := .xis "BadCount" (.own "BadJournal") false) rfl
theorem x_611 : (Fx.xis "BadBook" (.own "BadJournal") false).ok K = true := T.c.z.y.fact 611 (f := .xis "BadBook" (.own "BadJournal") false) rfl
theorem x_612 : (Fx.kits (.own "BadText") [("NoneType", false), ("bool", false), ("int", false), ("str", false), ("tuple", false), ("list", false), ("dict", false)]).ok K = true := T.c.z.y.fact 612 (f := .kits (.own "BadText") [("NoneType", false), ("bool", false), ("int", false), ("str", false), ("tuple", false), ("list", false), ("dict", false)]) rfl
theorem x_613 : (Fx.xis "OtherMachines" (.own "BadText") false).ok K = true := T.c.z.y.fact 613 (f := .xis "OtherMachines" (.own "BadText") false) rfl
theorem x_614 : (Fx.xis "NothingDone" (.own "BadText") false).ok K = true := T.c.z.y.fact 614 (f := .xis "NothingDone" (.own "BadText") false) rfl
theorem x_615 : (Fx.xis "NotRight" (.own "BadText") false).ok K = true := T.c.z.y.fact 615 (f := .xis "NotRight" (.own "BadText") false) rfl
theorem x_616 : (Fx.xis "NotNewest" (.own "BadText") false).ok K = true := T.c.z.y.fact 616 (f := .xis "NotNewest" (.own "BadText") false) rfl
theorem x_617 : (Fx.xis "NoTalk" (.own "BadText") false).ok K = true := T.c.z.y.fact 617 (f := .xis "NoTalk" (.own "BadText") false) rfl
theorem x_618 : (Fx.xis "NoLots" (.own "BadText") false).ok K = true := T.c.z.y.fact 618 (f := .xis "NoLots" (.own "BadText") false) rfl
theorem x_619 : (Fx.xis "CutOff" (.own "BadText") false).ok K = true := T.c.z.y.fact 619 (f := .xis "CutOff" (.own "BadText") false) rfl
theorem x_620 : (Fx.xis "BadWeights" (.own "BadText") false).ok K = true := T.c.z.y.fact 620 (f := .xis "BadWeights" (.own "BadText") false) rfl
theorem x_621 : (Fx.xis "BadTold" (.own "BadText") false).ok K = true := T.c.z.y.fact 621 (f := .xis "BadTold" (.own "BadText") false) rfl
theorem x_622 : (Fx.xis "BadText" (.own "BadText") true).ok K = true := T.c.z.y.fact 622 (f := .xis "BadText" (.own "BadText") true) rfl
theorem x_623 : (Fx.xis "BadStanding" (.own "BadText") false).ok K = true := T.c.z.y.fact 623 (f := .xis "BadStanding" (.own "BadText") false) rfl
theorem x_624 : (Fx.xis "BadStages" (.own "BadText") false).ok K = true := T.c.z.y.fact 624 (f := .xis "BadStages" (.own "BadText") false) rfl
theorem x_625 : (Fx.xis "BadSpread" (.own "BadText") false).ok K = true := T.c.z.y.fact 625 (f := .xis "BadSpread" (.own "BadText") false) rfl
theorem x_626 : (Fx.xis "BadRun" (.own "BadText") false).ok K = true := T.c.z.y.fact 626 (f := .xis "BadRun" (.own "BadText") false) rfl
theorem x_627 : (Fx.xis "BadRecord" (.own "BadText") false).ok K = true := T.c.z.y.fact 627 (f := .xis "BadRecord" (.own "BadText") false) rfl
theorem x_628 : (Fx.xis "BadRacks" (.own "BadText") false).ok K = true := T.c.z.y.fact 628 (f := .xis "BadRacks" (.own "BadText") false) rfl
theorem x_629 : (Fx.xis "BadQuota" (.own "BadText") false).ok K = true := T.c.z.y.fact 629 (f := .xis "BadQuota" (.own "BadText") false) rfl
theorem x_630 : (Fx.xis "BadPrices" (.own "BadText") false).ok K = true := T.c.z.y.fact 630 (f := .xis "BadPrices" (.own "BadText") false) rfl
theorem x_631 : (Fx.xis "BadPlace" (.own "BadText") false).ok K = true := T.c.z.y.fact 631 (f := .xis "BadPlace" (.own "BadText") false) rfl
theorem x_632 : (Fx.xis "BadMachine" (.own "BadText") false).ok K = true := T.c.z.y.fact 632 (f := .xis "BadMachine" (.own "BadText") false) rfl
theorem x_633 : (Fx.xis "BadLot" (.own "BadText") false).ok K = true := T.c.z.y.fact 633 (f := .xis "BadLot" (.own "BadText") false) rfl
theorem x_634 : (Fx.xis "BadLog" (.own "BadText") false).ok K = true := T.c.z.y.fact 634 (f := .xis "BadLog" (.own "BadText") false) rfl
theorem x_635 : (Fx.xis "BadLeft" (.own "BadText") false).ok K = true := T.c.z.y.fact 635 (f := .xis "BadLeft" (.own "BadText") false) rfl
theorem x_636 : (Fx.xis "BadJournal" (.own "BadText") false).ok K = true := T.c.z.y.fact 636 (f := .xis "BadJournal" (.own "BadText") false) rfl
theorem x_637 : (Fx.xis "BadIndex" (.own "BadText") false).ok K = true := T.c.z.y.fact 637 (f := .xis "BadIndex" (.own "BadText") false) rfl
theorem x_638 : (Fx.xis "BadHand" (.own "BadText") false).ok K = true := T.c.z.y.fact 638 (f := .xis "BadHand" (.own "BadText") false) rfl
theorem x_639 : (Fx.xis "BadFamily" (.own "BadText") false).ok K = true := T.c.z.y.fact 639 (f := .xis "BadFamily" (.own "BadText") false) rfl
theorem x_640 : (Fx.xis "BadFalls" (.own "BadText") false).ok K = true := T.c.z.y.fact 640 (f := .xis "BadFalls" (.own "BadText") false) rfl
theorem x_641 : (Fx.xis "BadEntries" (.own "BadText") false).ok K = true := T.c.z.y.fact 641 (f := .xis "BadEntries" (.own "BadText") false) rfl
theorem x_642 : (Fx.xis "BadDeed" (.own "BadText") false).ok K = true := T.c.z.y.fact 642 (f := .xis "BadDeed" (.own "BadText") false) rfl
theorem x_643 : (Fx.xis "BadCourse" (.own "BadText") false).ok K = true := T.c.z.y.fact 643 (f := .xis "BadCourse" (.own "BadText") false) rfl
theorem x_644 : (Fx.xis "BadCount" (.own "BadText") false).ok K = true := T.c.z.y.fact 644 (f := .xis "BadCount" (.own "BadText") false) rfl
theorem x_645 : (Fx.xis "BadBook" (.own "BadText") false).ok K = true := T.c.z.y.fact 645 (f := .xis "BadBook" (.own "BadText") false) rfl
theorem x_646 : (Fx.kits (.own "OtherMachines") [("NoneType", false), ("bool", false), ("int", false), ("str", false), ("tuple", false), ("list", false), ("dict", false)]).ok K = true := T.c.z.y.fact 646 (f := .kits (.own "OtherMachines") [("NoneType", false), ("bool", false), ("int", false), ("str", false), ("tuple", false), ("list", false), ("dict", false)]) rfl
theorem x_647 : (Fx.xis "OtherMachines" (.own "OtherMachines") true).ok K = true := T.c.z.y.fact 647 (f := .xis "OtherMachines" (.own "OtherMachines") true) rfl
theorem x_648 : (Fx.xis "NothingDone" (.own "OtherMachines") false).ok K = true := T.c.z.y.fact 648 (f := .xis "NothingDone" (.own "OtherMachines") false) rfl
theorem x_649 : (Fx.xis "NotRight" (.own "OtherMachines") false).ok K = true := T.c.z.y.fact 649 (f := .xis "NotRight" (.own "OtherMachines") false) rfl
theorem x_650 : (Fx.xis "NotNewest" (.own "OtherMachines") false).ok K = true := T.c.z.y.fact 650 (f := .xis "NotNewest" (.own "OtherMachines") false) rfl
theorem x_651 : (Fx.xis "NoTalk" (.own "OtherMachines") false).ok K = true := T.c.z.y.fact 651 (f := .xis "NoTalk" (.own "OtherMachines") false) rfl
theorem x_652 : (Fx.xis "NoLots" (.own "OtherMachines") false).ok K = true := T.c.z.y.fact 652 (f := .xis "NoLots" (.own "OtherMachines") false) rfl
theorem x_653 : (Fx.xis "CutOff" (.own "OtherMachines") false).ok K = true := T.c.z.y.fact 653 (f := .xis "CutOff" (.own "OtherMachines") false) rfl
theorem x_654 : (Fx.xis "BadWeights" (.own "OtherMachines") false).ok K = true := T.c.z.y.fact 654 (f := .xis "BadWeights" (.own "OtherMachines") false) rfl
theorem x_655 : (Fx.xis "BadTold" (.own "OtherMachines") false).ok K = true := T.c.z.y.fact 655 (f := .xis "BadTold" (.own "OtherMachines") false) rfl
theorem x_656 : (Fx.xis "BadText" (.own "OtherMachines") false).ok K = true := T.c.z.y.fact 656 (f := .xis "BadText" (.own "OtherMachines") false) rfl
theorem x_657 : (Fx.xis "BadStanding" (.own "OtherMachines") false).ok K = true := T.c.z.y.fact 657 (f := .xis "BadStanding" (.own "OtherMachines") false) rfl
theorem x_658 : (Fx.xis "BadStages" (.own "OtherMachines") false).ok K = true := T.c.z.y.fact 658 (f := .xis "BadStages" (.own "OtherMachines") false) rfl
theorem x_659 : (Fx.xis "BadSpread" (.own "OtherMachines") false).ok K = true := T.c.z.y.fact 659 (f := .xis "BadSpread" (.own "OtherMachines") false) rfl
theorem x_660 : (Fx.xis "BadRun" (.own "OtherMachines") false).ok K = true := T.c.z.y.fact 660 (f := .xis "BadRun" (.own "OtherMachines") false) rfl
theorem x_661 : (Fx.xis "BadRecord" (.own "OtherMachines") false).ok K = true := T.c.z.y.fact 661 (f := .xis "BadRecord" (.own "OtherMachines") false) rfl
theorem x_662 : (Fx.xis "BadRacks" (.own "OtherMachines") false).ok K = true := T.c.z.y.fact 662 (f := .xis "BadRacks" (.own "OtherMachines") false) rfl
theorem x_663 : (Fx.xis "BadQuota" (.own "OtherMachines") false).ok K = true := T.c.z.y.fact 663 (f := .xis "BadQuota" (.own "OtherMachines") false) rfl
theorem x_664 : (Fx.xis "BadPrices" (.own "OtherMachines") false).ok K = true := T.c.z.y.fact 664 (f := .xis "BadPrices" (.own "OtherMachines") false) rfl
theorem x_665 : (Fx.xis "BadPlace" (.own "OtherMachines") false).ok K = true := T.c.z.y.fact 665 (f := .xis "BadPlace" (.own "OtherMachines") false) rfl
theorem x_666 : (Fx.xis "BadMachine" (.own "OtherMachines") false).ok K = true := T.c.z.y.fact 666 (f := .xis "BadMachine" (.own "OtherMachines") false) rfl
theorem x_667 : (Fx.xis "BadLot" (.own "OtherMachines") false).ok K = true := T.c.z.y.fact 667 (f := .xis "BadLot" (.own "OtherMachines") false) rfl
theorem x_668 : (Fx.xis "BadLog" (.own "OtherMachines") false).ok K = true := T.c.z.y.fact 668 (f := .xis "BadLog" (.own "OtherMachines") false) rfl
theorem x_669 : (Fx.xis "BadLeft" (.own "OtherMachines") false).ok K = true := T.c.z.y.fact 669 (f := .xis "BadLeft" (.own "OtherMachines") false) rfl
theorem x_670 : (Fx.xis "BadJournal" (.own "OtherMachines") false).ok K = true := T.c.z.y.fact 670 (f := .xis "BadJournal" (.own "OtherMachines") false) rfl
theorem x_671 : (Fx.xis "BadIndex" (.own "OtherMachines") false).ok K = true := T.c.z.y.fact 671 (f := .xis "BadIndex" (.own "OtherMachines") false) rfl
theorem x_672 : (Fx.xis "BadHand" (.own "OtherMachines") false).ok K = true := T.c.z.y.fact 672 (f := .xis "BadHand" (.own "OtherMachines") false) rfl
theorem x_673 : (Fx.xis "BadFamily" (.own "OtherMachines") false).ok K = true := T.c.z.y.fact 673 (f := .xis "BadFamily" (.own "OtherMachines") false) rfl
theorem x_674 : (Fx.xis "BadFalls" (.own "OtherMachines") false).ok K = true := T.c.z.y.fact 674 (f := .xis "BadFalls" (.own "OtherMachines") false) rfl
theorem x_675 : (Fx.xis "BadEntries" (.own "OtherMachines") false).ok K = true := T.c.z.y.fact 675 (f := .xis "BadEntries" (.own "OtherMachines") false) rfl
theorem x_676 : (Fx.xis "BadDeed" (.own "OtherMachines") false).ok K = true := T.c.z.y.fact 676 (f := .xis "BadDeed" (.own "OtherMachines") false) rfl
theorem x_677 : (Fx.xis "BadCourse" (.own "OtherMachines") false).ok K = true := T.c.z.y.fact 677 (f := .xis "BadCourse" (.own "OtherMachines") false) rfl
theorem x_678 : (Fx.xis "BadCount" (.own "OtherMachines") false).ok K = true := T.c.z.y.fact 678 (f := .xis "BadCount" (.own "OtherMachines") false) rfl
theorem x_679 : (Fx.xis "BadBook" (.own "OtherMachines") false).ok K = true := T.c.z.y.fact 679 (f := .xis "BadBook" (.own "OtherMachines") false) rfl
theorem x_680 : (Fx.kits (.own "BadLot") [("NoneType", false), ("bool", false), ("int", false), ("str", false), ("tuple", false), ("list", false), ("dict", false)]).ok K = true := T.c.z.y.fact 680 (f := .kits (.own "BadLot") [("NoneType", false), ("bool", false), ("int", false), ("str", false), ("tuple", false), ("list", false), ("dict", false)]) rfl
theorem x_681 : (Fx.xis "OtherMachines" (.own "BadLot") false).ok K = true := T.c.z.y.fact 681 (f := .xis "OtherMachines" (.own "BadLot") false) rfl
theorem x_682 : (Fx.xis "NothingDone" (.own "BadLot") false).ok K = true := T.c.z.y.fact 682 (f := .xis "NothingDone" (.own "BadLot") false) rfl
theorem x_683 : (Fx.xis "NotRight" (.own "BadLot") false).ok K = true := T.c.z.y.fact 683 (f := .xis "NotRight" (.own "BadLot") false) rfl
theorem x_684 : (Fx.xis "NotNewest" (.own "BadLot") false).ok K = true := T.c.z.y.fact 684 (f := .xis "NotNewest" (.own "BadLot") false) rfl
theorem x_685 : (Fx.xis "NoTalk" (.own "BadLot") false).ok K = true := T.c.z.y.fact 685 (f := .xis "NoTalk" (.own "BadLot") false) rfl
theorem x_686 : (Fx.xis "NoLots" (.own "BadLot") false).ok K = true := T.c.z.y.fact 686 (f := .xis "NoLots" (.own "BadLot") false) rfl
theorem x_687 : (Fx.xis "CutOff" (.own "BadLot") false).ok K = true := T.c.z.y.fact 687 (f := .xis "CutOff" (.own "BadLot") false) rfl
theorem x_688 : (Fx.xis "BadWeights" (.own "BadLot") false).ok K = true := T.c.z.y.fact 688 (f := .xis "BadWeights" (.own "BadLot") false) rfl
theorem x_689 : (Fx.xis "BadTold" (.own "BadLot") false).ok K = true := T.c.z.y.fact 689 (f := .xis "BadTold" (.own "BadLot") false) rfl
theorem x_690 : (Fx.xis "BadText" (.own "BadLot") false).ok K = true := T.c.z.y.fact 690 (f := .xis "BadText" (.own "BadLot") false) rfl
theorem x_691 : (Fx.xis "BadStanding" (.own "BadLot") false).ok K = true := T.c.z.y.fact 691 (f := .xis "BadStanding" (.own "BadLot") false) rfl
theorem x_692 : (Fx.xis "BadStages" (.own "BadLot") false).ok K = true := T.c.z.y.fact 692 (f := .xis "BadStages" (.own "BadLot") false) rfl
theorem x_693 : (Fx.xis "BadSpread" (.own "BadLot") false).ok K = true := T.c.z.y.fact 693 (f := .xis "BadSpread" (.own "BadLot") false) rfl
theorem x_694 : (Fx.xis "BadRun" (.own "BadLot") false).ok K = true := T.c.z.y.fact 694 (f := .xis "BadRun" (.own "BadLot") false) rfl
theorem x_695 : (Fx.xis "BadRecord" (.own "BadLot") false).ok K = true := T.c.z.y.fact 695 (f := .xis "BadRecord" (.own "BadLot") false) rfl
theorem x_696 : (Fx.xis "BadRacks" (.own "BadLot") false).ok K = true := T.c.z.y.fact 696 (f := .xis "BadRacks" (.own "BadLot") false) rfl
theorem x_697 : (Fx.xis "BadQuota" (.own "BadLot") false).ok K = true := T.c.z.y.fact 697 (f := .xis "BadQuota" (.own "BadLot") false) rfl
theorem x_698 : (Fx.xis "BadPrices" (.own "BadLot") false).ok K = true := T.c.z.y.fact 698 (f := .xis "BadPrices" (.own "BadLot") false) rfl
theorem x_699 : (Fx.xis "BadPlace" (.own "BadLot") false).ok K = true := T.c.z.y.fact 699 (f := .xis "BadPlace" (.own "BadLot") false) rfl
theorem x_700 : (Fx.xis "BadMachine" (.own "BadLot") false).ok K = true := T.c.z.y.fact 700 (f := .xis "BadMachine" (.own "BadLot") false) rfl
theorem x_701 : (Fx.xis "BadLot" (.own "BadLot") true).ok K = true := T.c.z.y.fact 701 (f := .xis "BadLot" (.own "BadLot") true) rfl
theorem x_702 : (Fx.xis "BadLog" (.own "BadLot") false).ok K = true := T.c.z.y.fact 702 (f := .xis "BadLog" (.own "BadLot") false) rfl
theorem x_703 : (Fx.xis "BadLeft" (.own "BadLot") false).ok K = true := T.c.z.y.fact 703 (f := .xis "BadLeft" (.own "BadLot") false) rfl
theorem x_704 : (Fx.xis "BadJournal" (.own "BadLot") false).ok K = true := T.c.z.y.fact 704 (f := .xis "BadJournal" (.own "BadLot") false) rfl
theorem x_705 : (Fx.xis "BadIndex" (.own "BadLot") false).ok K = true := T.c.z.y.fact 705 (f := .xis "BadIndex" (.own "BadLot") false) rfl
theorem x_706 : (Fx.xis "BadHand" (.own "BadLot") false).ok K = true := T.c.z.y.fact 706 (f := .xis "BadHand" (.own "BadLot") false) rfl
theorem x_707 : (Fx.xis "BadFamily" (.own "BadLot") false).ok K = true := T.c.z.y.fact 707 (f := .xis "BadFamily" (.own "BadLot") false) rfl
theorem x_708 : (Fx.xis "BadFalls" (.own "BadLot") false).ok K = true := T.c.z.y.fact 708 (f := .xis "BadFalls" (.own "BadLot") false) rfl
theorem x_709 : (Fx.xis "BadEntries" (.own "BadLot") false).ok K = true := T.c.z.y.fact 709 (f := .xis "BadEntries" (.own "BadLot") false) rfl
theorem x_710 : (Fx.xis "BadDeed" (.own "BadLot") false).ok K = true := T.c.z.y.fact 710 (f := .xis "BadDeed" (.own "BadLot") false) rfl
theorem x_711 : (Fx.xis "BadCourse" (.own "BadLot") false).ok K = true := T.c.z.y.fact 711 (f := .xis "BadCourse" (.own "BadLot") false) rfl
theorem x_712 : (Fx.xis "BadCount" (.own "BadLot") false).ok K = true := T.c.z.y.fact 712 (f := .xis "BadCount" (.own "BadLot") false) rfl
theorem x_713 : (Fx.xis "BadBook" (.own "BadLot") false).ok K = true := T.c.z.y.fact 713 (f := .xis "BadBook" (.own "BadLot") false) rfl
theorem x_714 : (Fx.kits (.own "BadWeights") [("NoneType", false), ("bool", false), ("int", false), ("str", false), ("tuple", false), ("list", false), ("dict", false)]).ok K = true := T.c.z.y.fact 714 (f := .kits (.own "BadWeights") [("NoneType", false), ("bool", false), ("int", false), ("str", false), ("tuple", false), ("list", false), ("dict", false)]) rfl
theorem x_715 : (Fx.xis "OtherMachines" (.own "BadWeights") false).ok K = true := T.c.z.y.fact 715 (f := .xis "OtherMachines" (.own "BadWeights") false) rfl
theorem x_716 : (Fx.xis "NothingDone" (.own "BadWeights") false).ok K = true := T.c.z.y.fact 716 (f := .xis "NothingDone" (.own "BadWeights") false) rfl
theorem x_717 : (Fx.xis "NotRight" (.own "BadWeights") false).ok K = true := T.c.z.y.fact 717 (f := .xis "NotRight" (.own "BadWeights") false) rfl
theorem x_718 : (Fx.xis "NotNewest" (.own "BadWeights") false).ok K = true := T.c.z.y.fact 718 (f := .xis "NotNewest" (.own "BadWeights") false) rfl
theorem x_719 : (Fx.xis "NoTalk" (.own "BadWeights") false).ok K = true := T.c.z.y.fact 719 (f := .xis "NoTalk" (.own "BadWeights") false) rfl
theorem x_720 : (Fx.xis "NoLots" (.own "BadWeights") false).ok K = true := T.c.z.y.fact 720 (f := .xis "NoLots" (.own "BadWeights") false) rfl
theorem x_721 : (Fx.xis "CutOff" (.own "BadWeights") false).ok K = true := T.c.z.y.fact 721 (f := .xis "CutOff" (.own "BadWeights") false) rfl
theorem x_722 : (Fx.xis "BadWeights" (.own "BadWeights") true).ok K = true := T.c.z.y.fact 722 (f := .xis "BadWeights" (.own "BadWeights") true) rfl
theorem x_723 : (Fx.xis "BadTold" (.own "BadWeights") false).ok K = true := T.c.z.y.fact 723 (f := .xis "BadTold" (.own "BadWeights") false) rfl
theorem x_724 : (Fx.xis "BadText" (.own "BadWeights") false).ok K = true := T.c.z.y.fact 724 (f := .xis "BadText" (.own "BadWeights") false) rfl
theorem x_725 : (Fx.xis "BadStanding" (.own "BadWeights") false).ok K = true := T.c.z.y.fact 725 (f := .xis "BadStanding" (.own "BadWeights") false) rfl
theorem x_726 : (Fx.xis "BadStages" (.own "BadWeights") false).ok K = true := T.c.z.y.fact 726 (f := .xis "BadStages" (.own "BadWeights") false) rfl
theorem x_727 : (Fx.xis "BadSpread" (.own "BadWeights") false).ok K = true := T.c.z.y.fact 727 (f := .xis "BadSpread" (.own "BadWeights") false) rfl
theorem x_728 : (Fx.xis "BadRun" (.own "BadWeights") false).ok K = true := T.c.z.y.fact 728 (f := .xis "BadRun" (.own "BadWeights") false) rfl
theorem x_729 : (Fx.xis "BadRecord" (.own "BadWeights") false).ok K = true := T.c.z.y.fact 729 (f := .xis "BadRecord" (.own "BadWeights") false) rfl
theorem x_730 : (Fx.xis "BadRacks" (.own "BadWeights") false).ok K = true := T.c.z.y.fact 730 (f := .xis "BadRacks" (.own "BadWeights") false) rfl
theorem x_731 : (Fx.xis "BadQuota" (.own "BadWeights") false).ok K = true := T.c.z.y.fact 731 (f := .xis "BadQuota" (.own "BadWeights") false) rfl
theorem x_732 : (Fx.xis "BadPrices" (.own "BadWeights") false).ok K = true := T.c.z.y.fact 732 (f := .xis "BadPrices" (.own "BadWeights") false) rfl
theorem x_733 : (Fx.xis "BadPlace" (.own "BadWeights") false).ok K = true := T.c.z.y.fact 733 (f := .xis "BadPlace" (.own "BadWeights") false) rfl
theorem x_734 : (Fx.xis "BadMachine" (.own "BadWeights") false).ok K = true := T.c.z.y.fact 734 (f := .xis "BadMachine" (.own "BadWeights") false) rfl
theorem x_735 : (Fx.xis "BadLot" (.own "BadWeights") false).ok K = true := T.c.z.y.fact 735 (f := .xis "BadLot" (.own "BadWeights") false) rfl
theorem x_736 : (Fx.xis "BadLog" (.own "BadWeights") false).ok K = true := T.c.z.y.fact 736 (f := .xis "BadLog" (.own "BadWeights") false) rfl
theorem x_737 : (Fx.xis "BadLeft" (.own "BadWeights") false).ok K = true := T.c.z.y.fact 737 (f := .xis "BadLeft" (.own "BadWeights") false) rfl
theorem x_738 : (Fx.xis "BadJournal" (.own "BadWeights") false).ok K = true := T.c.z.y.fact 738 (f := .xis "BadJournal" (.own "BadWeights") false) rfl
theorem x_739 : (Fx.xis "BadIndex" (.own "BadWeights") false).ok K = true := T.c.z.y.fact 739 (f := .xis "BadIndex" (.own "BadWeights") false) rfl
theorem x_740 : (Fx.xis "BadHand" (.own "BadWeights") false).ok K = true := T.c.z.y.fact 740 (f := .xis "BadHand" (.own "BadWeights") false) rfl
theorem x_741 : (Fx.xis "BadFamily" (.own "BadWeights") false).ok K = true := T.c.z.y.fact 741 (f := .xis "BadFamily" (.own "BadWeights") false) rfl
theorem x_742 : (Fx.xis "BadFalls" (.own "BadWeights") false).ok K = true := T.c.z.y.fact 742 (f := .xis "BadFalls" (.own "BadWeights") false) rfl
theorem x_743 : (Fx.xis "BadEntries" (.own "BadWeights") false).ok K = true := T.c.z.y.fact 743 (f := .xis "BadEntries" (.own "BadWeights") false) rfl
theorem x_744 : (Fx.xis "BadDeed" (.own "BadWeights") false).ok K = true := T.c.z.y.fact 744 (f := .xis "BadDeed" (.own "BadWeights") false) rfl
theorem x_745 : (Fx.xis "BadCourse" (.own "BadWeights") false).ok K = true := T.c.z.y.fact 745 (f := .xis "BadCourse" (.own "BadWeights") false) rfl
theorem x_746 : (Fx.xis "BadCount" (.own "BadWeights") false).ok K = true := T.c.z.y.fact 746 (f := .xis "BadCount" (.own "BadWeights") false) rfl
theorem x_747 : (Fx.xis "BadBook" (.own "BadWeights") false).ok K = true := T.c.z.y.fact 747 (f := .xis "BadBook" (.own "BadWeights") false) rfl
theorem x_748 : (Fx.kits (.own "BadRacks") [("NoneType", false), ("bool", false), ("int", false), ("str", false), ("tuple", false), ("list", false), ("dict", false)]).ok K = true := T.c.z.y.fact 748 (f := .kits (.own "BadRacks") [("NoneType", false), ("bool", false), ("int", false), ("str", false), ("tuple", false), ("list", false), ("dict", false)]) rfl
theorem x_749 : (Fx.xis "OtherMachines" (.own "BadRacks") false).ok K = true := T.c.z.y.fact 749 (f := .xis "OtherMachines" (.own "BadRacks") false) rfl
theorem x_750 : (Fx.xis "NothingDone" (.own "BadRacks") false).ok K = true := T.c.z.y.fact 750 (f := .xis "NothingDone" (.own "BadRacks") false) rfl
theorem x_751 : (Fx.xis "NotRight" (.own "BadRacks") false).ok K = true := T.c.z.y.fact 751 (f := .xis "NotRight" (.own "BadRacks") false) rfl
theorem x_752 : (Fx.xis "NotNewest" (.own "BadRacks") false).ok K = true := T.c.z.y.fact 752 (f := .xis "NotNewest" (.own "BadRacks") false) rfl
theorem x_753 : (Fx.xis "NoTalk" (.own "BadRacks") false).ok K = true := T.c.z.y.fact 753 (f := .xis "NoTalk" (.own "BadRacks") false) rfl
theorem x_754 : (Fx.xis "NoLots" (.own "BadRacks") false).ok K = true := T.c.z.y.fact 754 (f := .xis "NoLots" (.own "BadRacks") false) rfl
theorem x_755 : (Fx.xis "CutOff" (.own "BadRacks") false).ok K = true := T.c.z.y.fact 755 (f := .xis "CutOff" (.own "BadRacks") false) rfl
theorem x_756 : (Fx.xis "BadWeights" (.own "BadRacks") false).ok K = true := T.c.z.y.fact 756 (f := .xis "BadWeights" (.own "BadRacks") false) rfl
theorem x_757 : (Fx.xis "BadTold" (.own "BadRacks") false).ok K = true := T.c.z.y.fact 757 (f := .xis "BadTold" (.own "BadRacks") false) rfl
theorem x_758 : (Fx.xis "BadText" (.own "BadRacks") false).ok K = true := T.c.z.y.fact 758 (f := .xis "BadText" (.own "BadRacks") false) rfl
theorem x_759 : (Fx.xis "BadStanding" (.own "BadRacks") false).ok K = true := T.c.z.y.fact 759 (f := .xis "BadStanding" (.own "BadRacks") false) rfl
theorem x_760 : (Fx.xis "BadStages" (.own "BadRacks") false).ok K = true := T.c.z.y.fact 760 (f := .xis "BadStages" (.own "BadRacks") false) rfl
theorem x_761 : (Fx.xis "BadSpread" (.own "BadRacks") false).ok K = true := T.c.z.y.fact 761 (f := .xis "BadSpread" (.own "BadRacks") false) rfl
theorem x_762 : (Fx.xis "BadRun" (.own "BadRacks") false).ok K = true := T.c.z.y.fact 762 (f := .xis "BadRun" (.own "BadRacks") false) rfl
theorem x_763 : (Fx.xis "BadRecord" (.own "BadRacks") false).ok K = true := T.c.z.y.fact 763 (f := .xis "BadRecord" (.own "BadRacks") false) rfl
theorem x_764 : (Fx.xis "BadRacks" (.own "BadRacks") true).ok K = true := T.c.z.y.fact 764 (f := .xis "BadRacks" (.own "BadRacks") true) rfl
theorem x_765 : (Fx.xis "BadQuota" (.own "BadRacks") false).ok K = true := T.c.z.y.fact 765 (f := .xis "BadQuota" (.own "BadRacks") false) rfl
theorem x_766 : (Fx.xis "BadPrices" (.own "BadRacks") false).ok K = true := T.c.z.y.fact 766 (f := .xis "BadPrices" (.own "BadRacks") false) rfl
theorem x_767 : (Fx.xis "BadPlace" (.own "BadRacks") false).ok K = true := T.c.z.y.fact 767 (f := .xis "BadPlace" (.own "BadRacks") false) rfl
theorem x_768 : (Fx.xis "BadMachine" (.own "BadRacks") false).ok K = true := T.c.z.y.fact 768 (f := .xis "BadMachine" (.own "BadRacks") false) rfl
theorem x_769 : (Fx.xis "BadLot" (.own "BadRacks") false).ok K = true := T.c.z.y.fact 769 (f := .xis "BadLot" (.own "BadRacks") false) rfl
theorem x_770 : (Fx.xis "BadLog" (.own "BadRacks") false).ok K = true := T.c.z.y.fact 770 (f := .xis "BadLog" (.own "BadRacks") false) rfl
theorem x_771 : (Fx.xis "BadLeft" (.own "BadRacks") false).ok K = true := T.c.z.y.fact 771 (f := .xis "BadLeft" (.own "BadRacks") false) rfl
theorem x_772 : (Fx.xis "BadJournal" (.own "BadRacks") false).ok K = true := T.c.z.y.fact 772 (f := .xis "BadJournal" (.own "BadRacks") false) rfl
theorem x_773 : (Fx.xis "BadIndex" (.own "BadRacks") false).ok K = true := T.c.z.y.fact 773 (f := .xis "BadIndex" (.own "BadRacks") false) rfl
theorem x_774 : (Fx.xis "BadHand" (.own "BadRacks") false).ok K = true := T.c.z.y.fact 774 (f := .xis "BadHand" (.own "BadRacks") false) rfl
theorem x_775 : (Fx.xis "BadFamily" (.own "BadRacks") false).ok K = true := T.c.z.y.fact 775 (f := .xis "BadFamily" (.own "BadRacks") false) rfl
theorem x_776 : (Fx.xis "BadFalls" (.own "BadRacks") false).ok K = true := T.c.z.y.fact 776 (f := .xis "BadFalls" (.own "BadRacks") false) rfl
theorem x_777 : (Fx.xis "BadEntries" (.own "BadRacks") false).ok K = true := T.c.z.y.fact 777 (f := .xis "BadEntries" (.own "BadRacks") false) rfl
theorem x_778 : (Fx.xis "BadDeed" (.own "BadRacks") false).ok K = true := T.c.z.y.fact 778 (f := .xis "BadDeed" (.own "BadRacks") false) rfl
theorem x_779 : (Fx.xis "BadCourse" (.own "BadRacks") false).ok K = true := T.c.z.y.fact 779 (f := .xis "BadCourse" (.own "BadRacks") false) rfl
theorem x_780 : (Fx.xis "BadCount" (.own "BadRacks") false).ok K = true := T.c.z.y.fact 780 (f := .xis "BadCount" (.own "BadRacks") false) rfl
theorem x_781 : (Fx.xis "BadBook" (.own "BadRacks") false).ok K = true := T.c.z.y.fact 781 (f := .xis "BadBook" (.own "BadRacks") false) rfl
theorem x_782 : (Fx.kits (.own "BadLog") [("NoneType", false), ("bool", false), ("int", false), ("str", false), ("tuple", false), ("list", false), ("dict", false)]).ok K = true := T.c.z.y.fact 782 (f := .kits (.own "BadLog") [("NoneType", false), ("bool", false), ("int", false), ("str", false), ("tuple", false), ("list", false), ("dict", false)]) rfl
theorem x_783 : (Fx.xis "OtherMachines" (.own "BadLog") false).ok K = true := T.c.z.y.fact 783 (f := .xis "OtherMachines" (.own "BadLog") false) rfl
theorem x_784 : (Fx.xis "NothingDone" (.own "BadLog") false).ok K = true := T.c.z.y.fact 784 (f := .xis "NothingDone" (.own "BadLog") false) rfl
theorem x_785 : (Fx.xis "NotRight" (.own "BadLog") false).ok K = true := T.c.z.y.fact 785 (f := .xis "NotRight" (.own "BadLog") false) rfl
theorem x_786 : (Fx.xis "NotNewest" (.own "BadLog") false).ok K = true := T.c.z.y.fact 786 (f := .xis "NotNewest" (.own "BadLog") false) rfl
theorem x_787 : (Fx.xis "NoTalk" (.own "BadLog") false).ok K = true := T.c.z.y.fact 787 (f := .xis "NoTalk" (.own "BadLog") false) rfl
theorem x_788 : (Fx.xis "NoLots" (.own "BadLog") false).ok K = true := T.c.z.y.fact 788 (f := .xis "NoLots" (.own "BadLog") false) rfl
theorem x_789 : (Fx.xis "CutOff" (.own "BadLog") false).ok K = true := T.c.z.y.fact 789 (f := .xis "CutOff" (.own "BadLog") false) rfl
theorem x_790 : (Fx.xis "BadWeights" (.own "BadLog") false).ok K = true := T.c.z.y.fact 790 (f := .xis "BadWeights" (.own "BadLog") false) rfl
theorem x_791 : (Fx.xis "BadTold" (.own "BadLog") false).ok K = true := T.c.z.y.fact 791 (f := .xis "BadTold" (.own "BadLog") false) rfl
theorem x_792 : (Fx.xis "BadText" (.own "BadLog") false).ok K = true := T.c.z.y.fact 792 (f := .xis "BadText" (.own "BadLog") false) rfl
theorem x_793 : (Fx.xis "BadStanding" (.own "BadLog") false).ok K = true := T.c.z.y.fact 793 (f := .xis "BadStanding" (.own "BadLog") false) rfl
theorem x_794 : (Fx.xis "BadStages" (.own "BadLog") false).ok K = true := T.c.z.y.fact 794 (f := .xis "BadStages" (.own "BadLog") false) rfl
theorem x_795 : (Fx.xis "BadSpread" (.own "BadLog") false).ok K = true := T.c.z.y.fact 795 (f := .xis "BadSpread" (.own "BadLog") false) rfl
theorem x_796 : (Fx.xis "BadRun" (.own "BadLog") false).ok K = true := T.c.z.y.fact 796 (f := .xis "BadRun" (.own "BadLog") false) rfl
theorem x_797 : (Fx.xis "BadRecord" (.own "BadLog") false).ok K = true := T.c.z.y.fact 797 (f := .xis "BadRecord" (.own "BadLog") false) rfl
theorem x_798 : (Fx.xis "BadRacks" (.own "BadLog") false).ok K = true := T.c.z.y.fact 798 (f := .xis "BadRacks" (.own "BadLog") false) rfl
theorem x_799 : (Fx.xis "BadQuota" (.own "BadLog") false).ok K = true := T.c.z.y.fact 799 (f := .xis "BadQuota" (.own "BadLog") false) rfl
theorem x_800 : (Fx.xis "BadPrices" (.own "BadLog") false).ok K = true := T.c.z.y.fact 800 (f := .xis "BadPrices" (.own "BadLog") false) rfl
theorem x_801 : (Fx.xis "BadPlace" (.own "BadLog") false).ok K = true := T.c.z.y.fact 801 (f := .xis "BadPlace" (.own "BadLog") false) rfl
theorem x_802 : (Fx.xis "BadMachine" (.own "BadLog") false).ok K = true := T.c.z.y.fact 802 (f := .xis "BadMachine" (.own "BadLog") false) rfl
theorem x_803 : (Fx.xis "BadLot" (.own "BadLog") false).ok K = true := T.c.z.y.fact 803 (f := .xis "BadLot" (.own "BadLog") false) rfl
theorem x_804 : (Fx.xis "BadLog" (.own "BadLog") true).ok K = true := T.c.z.y.fact 804 (f := .xis "BadLog" (.own "BadLog") true) rfl
theorem x_805 : (Fx.xis "BadLeft" (.own "BadLog") false).ok K = true := T.c.z.y.fact 805 (f := .xis "BadLeft" (.own "BadLog") false) rfl
theorem x_806 : (Fx.xis "BadJournal" (.own "BadLog") false).ok K = true := T.c.z.y.fact 806 (f := .xis "BadJournal" (.own "BadLog") false) rfl
theorem x_807 : (Fx.xis "BadIndex" (.own "BadLog") false).ok K = true := T.c.z.y.fact 807 (f := .xis "BadIndex" (.own "BadLog") false) rfl
theorem x_808 : (Fx.xis "BadHand" (.own "BadLog") false).ok K = true := T.c.z.y.fact 808 (f := .xis "BadHand" (.own "BadLog") false) rfl
theorem x_809 : (Fx.xis "BadFamily" (.own "BadLog") false).ok K = true := T.c.z.y.fact 809 (f := .xis "BadFamily" (.own "BadLog") false) rfl
theorem x_810 : (Fx.xis "BadFalls" (.own "BadLog") false).ok K = true := T.c.z.y.fact 810 (f := .xis "BadFalls" (.own "BadLog") false) rfl
theorem x_811 : (Fx.xis "BadEntries" (.own "BadLog") false).ok K = true := T.c.z.y.fact 811 (f := .xis "BadEntries" (.own "BadLog") false) rfl
theorem x_812 : (Fx.xis "BadDeed" (.own "BadLog") false).ok K = true := T.c.z.y.fact 812 (f := .xis "BadDeed" (.own "BadLog") false) rfl
theorem x_813 : (Fx.xis "BadCourse" (.own "BadLog") false).ok K = true := T.c.z.y.fact 813 (f := .xis "BadCourse" (.own "BadLog") false) rfl
theorem x_814 : (Fx.xis "BadCount" (.own "BadLog") false).ok K = true := T.c.z.y.fact 814 (f := .xis "BadCount" (.own "BadLog") false) rfl
theorem x_815 : (Fx.xis "BadBook" (.own "BadLog") false).ok K = true := T.c.z.y.fact 815 (f := .xis "BadBook" (.own "BadLog") false) rfl
theorem x_816 : (Fx.kits (.own "BadRecord") [("NoneType", false), ("bool", false), ("int", false), ("str", false), ("tuple", false), ("list", false), ("dict", false)]).ok K = true := T.c.z.y.fact 816 (f := .kits (.own "BadRecord") [("NoneType", false), ("bool", false), ("int", false), ("str", false), ("tuple", false), ("list", false), ("dict", false)]) rfl
theorem x_817 : (Fx.xis "OtherMachines" (.own "BadRecord") false).ok K = true := T.c.z.y.fact 817 (f := .xis "OtherMachines" (.own "BadRecord") false) rfl
theorem x_818 : (Fx.xis "NothingDone" (.own "BadRecord") false).ok K = true := T.c.z.y.fact 818 (f := .xis "NothingDone" (.own "BadRecord") false) rfl
theorem x_819 : (Fx.xis "NotRight" (.own "BadRecord") false).ok K = true := T.c.z.y.fact 819 (f := .xis "NotRight" (.own "BadRecord") false) rfl
theorem x_820 : (Fx.xis "NotNewest" (.own "BadRecord") false).ok K = true := T.c.z.y.fact 820 (f := .xis "NotNewest" (.own "BadRecord") false) rfl
theorem x_821 : (Fx.xis "NoTalk" (.own "BadRecord") false).ok K = true := T.c.z.y.fact 821 (f := .xis "NoTalk" (.own "BadRecord") false) rfl
theorem x_822 : (Fx.xis "NoLots" (.own "BadRecord") false).ok K = true := T.c.z.y.fact 822 (f := .xis "NoLots" (.own "BadRecord") false) rfl
theorem x_823 : (Fx.xis "CutOff" (.own "BadRecord") false).ok K = true := T.c.z.y.fact 823 (f := .xis "CutOff" (.own "BadRecord") false) rfl
theorem x_824 : (Fx.xis "BadWeights" (.own "BadRecord") false).ok K = true := T.c.z.y.fact 824 (f := .xis "BadWeights" (.own "BadRecord") false) rfl
theorem x_825 : (Fx.xis "BadTold" (.own "BadRecord") false).ok K = true := T.c.z.y.fact 825 (f := .xis "BadTold" (.own "BadRecord") false) rfl
theorem x_826 : (Fx.xis "BadText" (.own "BadRecord") false).ok K = true := T.c.z.y.fact 826 (f := .xis "BadText" (.own "BadRecord") false) rfl
theorem x_827 : (Fx.xis "BadStanding" (.own "BadRecord") false).ok K = true := T.c.z.y.fact 827 (f := .xis "BadStanding" (.own "BadRecord") false) rfl
theorem x_828 : (Fx.xis "BadStages" (.own "BadRecord") false).ok K = true := T.c.z.y.fact 828 (f := .xis "BadStages" (.own "BadRecord") false) rfl
theorem x_829 : (Fx.xis "BadSpread" (.own "BadRecord") false).ok K = true := T.c.z.y.fact 829 (f := .xis "BadSpread" (.own "BadRecord") false) rfl
theorem x_830 : (Fx.xis "BadRun" (.own "BadRecord") false).ok K = true := T.c.z.y.fact 830 (f := .xis "BadRun" (.own "BadRecord") false) rfl
theorem x_831 : (Fx.xis "BadRecord" (.own "BadRecord") true).ok K = true := T.c.z.y.fact 831 (f := .xis "BadRecord" (.own "BadRecord") true) rfl
theorem x_832 : (Fx.xis "BadRacks" (.own "BadRecord") false).ok K = true := T.c.z.y.fact 832 (f := .xis "BadRacks" (.own "BadRecord") false) rfl
theorem x_833 : (Fx.xis "BadQuota" (.own "BadRecord") false).ok K = true := T.c.z.y.fact 833 (f := .xis "BadQuota" (.own "BadRecord") false) rfl
theorem x_834 : (Fx.xis "BadPrices" (.own "BadRecord") false).ok K = true := T.c.z.y.fact 834 (f := .xis "BadPrices" (.own "BadRecord") false) rfl
theorem x_835 : (Fx.xis "BadPlace" (.own "BadRecord") false).ok K = true := T.c.z.y.fact 835 (f := .xis "BadPlace" (.own "BadRecord") false) rfl
theorem x_836 : (Fx.xis "BadMachine" (.own "BadRecord") false).ok K = true := T.c.z.y.fact 836 (f := .xis "BadMachine" (.own "BadRecord") false) rfl
theorem x_837 : (Fx.xis "BadLot" (.own "BadRecord") false).ok K = true := T.c.z.y.fact 837 (f := .xis "BadLot" (.own "BadRecord") false) rfl
theorem x_838 : (Fx.xis "BadLog" (.own "BadRecord") false).ok K = true := T.c.z.y.fact 838 (f := .xis "BadLog" (.own "BadRecord") false) rfl
theorem x_839 : (Fx.xis "BadLeft" (.own "BadRecord") false).ok K = true := T.c.z.y.fact 839 (f := .xis "BadLeft" (.own "BadRecord") false) rfl
theorem x_840 : (Fx.xis "BadJournal" (.own "BadRecord") false).ok K = true := T.c.z.y.fact 840 (f := .xis "BadJournal" (.own "BadRecord") false) rfl
theorem x_841 : (Fx.xis "BadIndex" (.own "BadRecord") false).ok K = true := T.c.z.y.fact 841 (f := .xis "BadIndex" (.own "BadRecord") false) rfl
theorem x_842 : (Fx.xis "BadHand" (.own "BadRecord") false).ok K = true := T.c.z.y.fact 842 (f := .xis "BadHand" (.own "BadRecord") false) rfl
theorem x_843 : (Fx.xis "BadFamily" (.own "BadRecord") false).ok K = true := T.c.z.y.fact 843 (f := .xis "BadFamily" (.own "BadRecord") false) rfl
theorem x_844 : (Fx.xis "BadFalls" (.own "BadRecord") false).ok K = true := T.c.z.y.fact 844 (f := .xis "BadFalls" (.own "BadRecord") false) rfl
theorem x_845 : (Fx.xis "BadEntries" (.own "BadRecord") false).ok K = true := T.c.z.y.fact 845 (f := .xis "BadEntries" (.own "BadRecord") false) rfl
theorem x_846 : (Fx.xis "BadDeed" (.own "BadRecord") false).ok K = true := T.c.z.y.fact 846 (f := .xis "BadDeed" (.own "BadRecord") false) rfl
theorem x_847 : (Fx.xis "BadCourse" (.own "BadRecord") false).ok K = true := T.c.z.y.fact 847 (f := .xis "BadCourse" (.own "BadRecord") false) rfl
theorem x_848 : (Fx.xis "BadCount" (.own "BadRecord") false).ok K = true := T.c.z.y.fact 848 (f := .xis "BadCount" (.own "BadRecord") false) rfl
theorem x_849 : (Fx.xis "BadBook" (.own "BadRecord") false).ok K = true := T.c.z.y.fact 849 (f := .xis "BadBook" (.own "BadRecord") false) rfl
theorem x_850 : (Fx.kits (.own "BadStanding") [("NoneType", false), ("bool", false), ("int", false), ("str", false), ("tuple", false), ("list", false), ("dict", false)]).ok K = true := T.c.z.y.fact 850 (f := .kits (.own "BadStanding") [("NoneType", false), ("bool", false), ("int", false), ("str", false), ("tuple", false), ("list", false), ("dict", false)]) rfl
theorem x_851 : (Fx.xis "OtherMachines" (.own "BadStanding") false).ok K = true := T.c.z.y.fact 851 (f := .xis "OtherMachines" (.own "BadStanding") false) rfl
theorem x_852 : (Fx.xis "NothingDone" (.own "BadStanding") false).ok K = true := T.c.z.y.fact 852 (f := .xis "NothingDone" (.own "BadStanding") false) rfl
theorem x_853 : (Fx.xis "NotRight" (.own "BadStanding") false).ok K = true := T.c.z.y.fact 853 (f := .xis "NotRight" (.own "BadStanding") false) rfl
theorem x_854 : (Fx.xis "NotNewest" (.own "BadStanding") false).ok K = true := T.c.z.y.fact 854 (f := .xis "NotNewest" (.own "BadStanding") false) rfl
theorem x_855 : (Fx.xis "NoTalk" (.own "BadStanding") false).ok K = true := T.c.z.y.fact 855 (f := .xis "NoTalk" (.own "BadStanding") false) rfl
theorem x_856 : (Fx.xis "NoLots" (.own "BadStanding") false).ok K = true := T.c.z.y.fact 856 (f := .xis "NoLots" (.own "BadStanding") false) rfl
theorem x_857 : (Fx.xis "CutOff" (.own "BadStanding") false).ok K = true := T.c.z.y.fact 857 (f := .xis "CutOff" (.own "BadStanding") false) rfl
theorem x_858 : (Fx.xis "BadWeights" (.own "BadStanding") false).ok K = true := T.c.z.y.fact 858 (f := .xis "BadWeights" (.own "BadStanding") false) rfl
theorem x_859 : (Fx.xis "BadTold" (.own "BadStanding") false).ok K = true := T.c.z.y.fact 859 (f := .xis "BadTold" (.own "BadStanding") false) rfl
theorem x_860 : (Fx.xis "BadText" (.own "BadStanding") false).ok K = true := T.c.z.y.fact 860 (f := .xis "BadText" (.own "BadStanding") false) rfl
theorem x_861 : (Fx.xis "BadStanding" (.own "BadStanding") true).ok K = true := T.c.z.y.fact 861 (f := .xis "BadStanding" (.own "BadStanding") true) rfl
theorem x_862 : (Fx.xis "BadStages" (.own "BadStanding") false).ok K = true := T.c.z.y.fact 862 (f := .xis "BadStages" (.own "BadStanding") false) rfl
theorem x_863 : (Fx.xis "BadSpread" (.own "BadStanding") false).ok K = true := T.c.z.y.fact 863 (f := .xis "BadSpread" (.own "BadStanding") false) rfl
theorem x_864 : (Fx.xis "BadRun" (.own "BadStanding") false).ok K = true := T.c.z.y.fact 864 (f := .xis "BadRun" (.own "BadStanding") false) rfl
theorem x_865 : (Fx.xis "BadRecord" (.own "BadStanding") false).ok K = true := T.c.z.y.fact 865 (f := .xis "BadRecord" (.own "BadStanding") false) rfl
theorem x_866 : (Fx.xis "BadRacks" (.own "BadStanding") false).ok K = true := T.c.z.y.fact 866 (f := .xis "BadRacks" (.own "BadStanding") false) rfl
theorem x_867 : (Fx.xis "BadQuota" (.own "BadStanding") false).ok K = true := T.c.z.y.fact 867 (f := .xis "BadQuota" (.own "BadStanding") false) rfl
theorem x_868 : (Fx.xis "BadPrices" (.own "BadStanding") false).ok K = true := T.c.z.y.fact 868 (f := .xis "BadPrices" (.own "BadStanding") false) rfl
theorem x_869 : (Fx.xis "BadPlace" (.own "BadStanding") false).ok K = true := T.c.z.y.fact 869 (f := .xis "BadPlace" (.own "BadStanding") false) rfl
theorem x_870 : (Fx.xis "BadMachine" (.own "BadStanding") false).ok K = true := T.c.z.y.fact 870 (f := .xis "BadMachine" (.own "BadStanding") false) rfl
theorem x_871 : (Fx.xis "BadLot" (.own "BadStanding") false).ok K = true := T.c.z.y.fact 871 (f := .xis "BadLot" (.own "BadStanding") false) rfl
theorem x_872 : (Fx.xis "BadLog" (.own "BadStanding") false).ok K = true := T.c.z.y.fact 872 (f := .xis "BadLog" (.own "BadStanding") false) rfl
theorem x_873 : (Fx.xis "BadLeft" (.own "BadStanding") false).ok K = true := T.c.z.y.fact 873 (f := .xis "BadLeft" (.own "BadStanding") false) rfl
theorem x_874 : (Fx.xis "BadJournal" (.own "BadStanding") false).ok K = true := T.c.z.y.fact 874 (f := .xis "BadJournal" (.own "BadStanding") false) rfl
theorem x_875 : (Fx.xis "BadIndex" (.own "BadStanding") false).ok K = true := T.c.z.y.fact 875 (f := .xis "BadIndex" (.own "BadStanding") false) rfl
theorem x_876 : (Fx.xis "BadHand" (.own "BadStanding") false).ok K = true := T.c.z.y.fact 876 (f := .xis "BadHand" (.own "BadStanding") false) rfl
theorem x_877 : (Fx.xis "BadFamily" (.own "BadStanding") false).ok K = true := T.c.z.y.fact 877 (f := .xis "BadFamily" (.own "BadStanding") false) rfl
theorem x_878 : (Fx.xis "BadFalls" (.own "BadStanding") false).ok K = true := T.c.z.y.fact 878 (f := .xis "BadFalls" (.own "BadStanding") false) rfl
theorem x_879 : (Fx.xis "BadEntries" (.own "BadStanding") false).ok K = true := T.c.z.y.fact 879 (f := .xis "BadEntries" (.own "BadStanding") false) rfl
theorem x_880 : (Fx.xis "BadDeed" (.own "BadStanding") false).ok K = true := T.c.z.y.fact 880 (f := .xis "BadDeed" (.own "BadStanding") false) rfl
theorem x_881 : (Fx.xis "BadCourse" (.own "BadStanding") false).ok K = true := T.c.z.y.fact 881 (f := .xis "BadCourse" (.own "BadStanding") false) rfl
theorem x_882 : (Fx.xis "BadCount" (.own "BadStanding") false).ok K = true := T.c.z.y.fact 882 (f := .xis "BadCount" (.own "BadStanding") false) rfl
theorem x_883 : (Fx.xis "BadBook" (.own "BadStanding") false).ok K = true := T.c.z.y.fact 883 (f := .xis "BadBook" (.own "BadStanding") false) rfl
theorem x_884 : (Fx.kits (.own "BadTold") [("NoneType", false), ("bool", false), ("int", false), ("str", false), ("tuple", false), ("list", false), ("dict", false)]).ok K = true := T.c.z.y.fact 884 (f := .kits (.own "BadTold") [("NoneType", false), ("bool", false), ("int", false), ("str", false), ("tuple", false), ("list", false), ("dict", false)]) rfl
theorem x_885 : (Fx.xis "OtherMachines" (.own "BadTold") false).ok K = true := T.c.z.y.fact 885 (f := .xis "OtherMachines" (.own "BadTold") false) rfl
theorem x_886 : (Fx.xis "NothingDone" (.own "BadTold") false).ok K = true := T.c.z.y.fact 886 (f := .xis "NothingDone" (.own "BadTold") false) rfl
theorem x_887 : (Fx.xis "NotRight" (.own "BadTold") false).ok K = true := T.c.z.y.fact 887 (f := .xis "NotRight" (.own "BadTold") false) rfl
theorem x_888 : (Fx.xis "NotNewest" (.own "BadTold") false).ok K = true := T.c.z.y.fact 888 (f := .xis "NotNewest" (.own "BadTold") false) rfl
theorem x_889 : (Fx.xis "NoTalk" (.own "BadTold") false).ok K = true := T.c.z.y.fact 889 (f := .xis "NoTalk" (.own "BadTold") false) rfl
theorem x_890 : (Fx.xis "NoLots" (.own "BadTold") false).ok K = true := T.c.z.y.fact 890 (f := .xis "NoLots" (.own "BadTold") false) rfl
theorem x_891 : (Fx.xis "CutOff" (.own "BadTold") false).ok K = true := T.c.z.y.fact 891 (f := .xis "CutOff" (.own "BadTold") false) rfl
theorem x_892 : (Fx.xis "BadWeights" (.own "BadTold") false).ok K = true := T.c.z.y.fact 892 (f := .xis "BadWeights" (.own "BadTold") false) rfl
theorem x_893 : (Fx.xis "BadTold" (.own "BadTold") true).ok K = true := T.c.z.y.fact 893 (f := .xis "BadTold" (.own "BadTold") true) rfl
theorem x_894 : (Fx.xis "BadText" (.own "BadTold") false).ok K = true := T.c.z.y.fact 894 (f := .xis "BadText" (.own "BadTold") false) rfl
theorem x_895 : (Fx.xis "BadStanding" (.own "BadTold") false).ok K = true := T.c.z.y.fact 895 (f := .xis "BadStanding" (.own "BadTold") false) rfl
theorem x_896 : (Fx.xis "BadStages" (.own "BadTold") false).ok K = true := T.c.z.y.fact 896 (f := .xis "BadStages" (.own "BadTold") false) rfl
theorem x_897 : (Fx.xis "BadSpread" (.own "BadTold") false).ok K = true := T.c.z.y.fact 897 (f := .xis "BadSpread" (.own "BadTold") false) rfl
theorem x_898 : (Fx.xis "BadRun" (.own "BadTold") false).ok K = true := T.c.z.y.fact 898 (f := .xis "BadRun" (.own "BadTold") false) rfl
theorem x_899 : (Fx.xis "BadRecord" (.own "BadTold") false).ok K = true := T.c.z.y.fact 899 (f := .xis "BadRecord" (.own "BadTold") false) rfl
theorem x_900 : (Fx.xis "BadRacks" (.own "BadTold") false).ok K = true := T.c.z.y.fact 900 (f := .xis "BadRacks" (.own "BadTold") false) rfl
theorem x_901 : (Fx.xis "BadQuota" (.own "BadTold") false).ok K = true := T.c.z.y.fact 901 (f := .xis "BadQuota" (.own "BadTold") false) rfl
theorem x_902 : (Fx.xis "BadPrices" (.own "BadTold") false).ok K = true := T.c.z.y.fact 902 (f := .xis "BadPrices" (.own "BadTold") false) rfl
theorem x_903 : (Fx.xis "BadPlace" (.own "BadTold") false).ok K = true := T.c.z.y.fact 903 (f := .xis "BadPlace" (.own "BadTold") false) rfl
theorem x_904 : (Fx.xis "BadMachine" (.own "BadTold") false).ok K = true := T.c.z.y.fact 904 (f := .xis "BadMachine" (.own "BadTold") false) rfl
theorem x_905 : (Fx.xis "BadLot" (.own "BadTold") false).ok K = true := T.c.z.y.fact 905 (f := .xis "BadLot" (.own "BadTold") false) rfl
theorem x_906 : (Fx.xis "BadLog" (.own "BadTold") false).ok K = true := T.c.z.y.fact 906 (f := .xis "BadLog" (.own "BadTold") false) rfl
theorem x_907 : (Fx.xis "BadLeft" (.own "BadTold") false).ok K = true := T.c.z.y.fact 907 (f := .xis "BadLeft" (.own "BadTold") false) rfl
theorem x_908 : (Fx.xis "BadJournal" (.own "BadTold") false).ok K = true := T.c.z.y.fact 908 (f := .xis "BadJournal" (.own "BadTold") false) rfl
theorem x_909 : (Fx.xis "BadIndex" (.own "BadTold") false).ok K = true := T.c.z.y.fact 909 (f := .xis "BadIndex" (.own "BadTold") false) rfl
theorem x_910 : (Fx.xis "BadHand" (.own "BadTold") false).ok K = true := T.c.z.y.fact 910 (f := .xis "BadHand" (.own "BadTold") false) rfl
theorem x_911 : (Fx.xis "BadFamily" (.own "BadTold") false).ok K = true := T.c.z.y.fact 911 (f := .xis "BadFamily" (.own "BadTold") false) rfl
theorem x_912 : (Fx.xis "BadFalls" (.own "BadTold") false).ok K = true := T.c.z.y.fact 912 (f := .xis "BadFalls" (.own "BadTold") false) rfl
theorem x_913 : (Fx.xis "BadEntries" (.own "BadTold") false).ok K = true := T.c.z.y.fact 913 (f := .xis "BadEntries" (.own "BadTold") false) rfl
theorem x_914 : (Fx.xis "BadDeed" (.own "BadTold") false).ok K = true := T.c.z.y.fact 914 (f := .xis "BadDeed" (.own "BadTold") false) rfl
theorem x_915 : (Fx.xis "BadCourse" (.own "BadTold") false).ok K = true := T.c.z.y.fact 915 (f := .xis "BadCourse" (.own "BadTold") false) rfl
theorem x_916 : (Fx.xis "BadCount" (.own "BadTold") false).ok K = true := T.c.z.y.fact 916 (f := .xis "BadCount" (.own "BadTold") false) rfl
theorem x_917 : (Fx.xis "BadBook" (.own "BadTold") false).ok K = true := T.c.z.y.fact 917 (f := .xis "BadBook" (.own "BadTold") false) rfl
theorem x_918 : (Fx.kits (.own "BadEntries") [("NoneType", false), ("bool", false), ("int", false), ("str", false), ("tuple", false), ("list", false), ("dict", false)]).ok K = true := T.c.z.y.fact 918 (f := .kits (.own "BadEntries") [("NoneType", false), ("bool", false), ("int", false), ("str", false), ("tuple", false), ("list", false), ("dict", false)]) rfl
theorem x_919 : (Fx.xis "OtherMachines" (.own "BadEntries") false).ok K = true := T.c.z.y.fact 919 (f := .xis "OtherMachines" (.own "BadEntries") false) rfl
theorem x_920 : (Fx.xis "NothingDone" (.own "BadEntries") false).ok K = true := T.c.z.y.fact 920 (f := .xis "NothingDone" (.own "BadEntries") false) rfl
theorem x_921 : (Fx.xis "NotRight" (.own "BadEntries") false).ok K = true := T.c.z.y.fact 921 (f := .xis "NotRight" (.own "BadEntries") false) rfl
theorem x_922 : (Fx.xis "NotNewest" (.own "BadEntries") false).ok K = true := T.c.z.y.fact 922 (f := .xis "NotNewest" (.own "BadEntries") false) rfl
theorem x_923 : (Fx.xis "NoTalk" (.own "BadEntries") false).ok K = true := T.c.z.y.fact 923 (f := .xis "NoTalk" (.own "BadEntries") false) rfl
theorem x_924 : (Fx.xis "NoLots" (.own "BadEntries") false).ok K = true := T.c.z.y.fact 924 (f := .xis "NoLots" (.own "BadEntries") false) rfl
theorem x_925 : (Fx.xis "CutOff" (.own "BadEntries") false).ok K = true := T.c.z.y.fact 925 (f := .xis "CutOff" (.own "BadEntries") false) rfl
theorem x_926 : (Fx.xis "BadWeights" (.own "BadEntries") false).ok K = true := T.c.z.y.fact 926 (f := .xis "BadWeights" (.own "BadEntries") false) rfl
theorem x_927 : (Fx.xis "BadTold" (.own "BadEntries") false).ok K = true := T.c.z.y.fact 927 (f := .xis "BadTold" (.own "BadEntries") false) rfl
theorem x_928 : (Fx.xis "BadText" (.own "BadEntries") false).ok K = true := T.c.z.y.fact 928 (f := .xis "BadText" (.own "BadEntries") false) rfl
theorem x_929 : (Fx.xis "BadStanding" (.own "BadEntries") false).ok K = true := T.c.z.y.fact 929 (f := .xis "BadStanding" (.own "BadEntries") false) rfl
theorem x_930 : (Fx.xis "BadStages" (.own "BadEntries") false).ok K = true := T.c.z.y.fact 930 (f := .xis "BadStages" (.own "BadEntries") false) rfl
theorem x_931 : (Fx.xis "BadSpread" (.own "BadEntries") false).ok K = true := T.c.z.y.fact 931 (f := .xis "BadSpread" (.own "BadEntries") false) rfl
theorem x_932 : (Fx.xis "BadRun" (.own "BadEntries") false).ok K = true := T.c.z.y.fact 932 (f := .xis "BadRun" (.own "BadEntries") false) rfl
theorem x_933 : (Fx.xis "BadRecord" (.own "BadEntries") false).ok K = true := T.c.z.y.fact 933 (f := .xis "BadRecord" (.own "BadEntries") false) rfl
theorem x_934 : (Fx.xis "BadRacks" (.own "BadEntries") false).ok K = true := T.c.z.y.fact 934 (f := .xis "BadRacks" (.own "BadEntries") false) rfl
theorem x_935 : (Fx.xis "BadQuota" (.own "BadEntries") false).ok K = true := T.c.z.y.fact 935 (f := .xis "BadQuota" (.own "BadEntries") false) rfl
theorem x_936 : (Fx.xis "BadPrices" (.own "BadEntries") false).ok K = true := T.c.z.y.fact 936 (f := .xis "BadPrices" (.own "BadEntries") false) rfl
theorem x_937 : (Fx.xis "BadPlace" (.own "BadEntries") false).ok K = true := T.c.z.y.fact 937 (f := .xis "BadPlace" (.own "BadEntries") false) rfl
theorem x_938 : (Fx.xis "BadMachine" (.own "BadEntries") false).ok K = true := T.c.z.y.fact 938 (f := .xis "BadMachine" (.own "BadEntries") false) rfl
theorem x_939 : (Fx.xis "BadLot" (.own "BadEntries") false).ok K = true := T.c.z.y.fact 939 (f := .xis "BadLot" (.own "BadEntries") false) rfl
theorem x_940 : (Fx.xis "BadLog" (.own "BadEntries") false).ok K = true := T.c.z.y.fact 940 (f := .xis "BadLog" (.own "BadEntries") false) rfl
theorem x_941 : (Fx.xis "BadLeft" (.own "BadEntries") false).ok K = true := T.c.z.y.fact 941 (f := .xis "BadLeft" (.own "BadEntries") false) rfl
theorem x_942 : (Fx.xis "BadJournal" (.own "BadEntries") false).ok K = true := T.c.z.y.fact 942 (f := .xis "BadJournal" (.own "BadEntries") false) rfl
theorem x_943 : (Fx.xis "BadIndex" (.own "BadEntries") false).ok K = true := T.c.z.y.fact 943 (f := .xis "BadIndex" (.own "BadEntries") false) rfl
theorem x_944 : (Fx.xis "BadHand" (.own "BadEntries") false).ok K = true := T.c.z.y.fact 944 (f := .xis "BadHand" (.own "BadEntries") false) rfl
theorem x_945 : (Fx.xis "BadFamily" (.own "BadEntries") false).ok K = true := T.c.z.y.fact 945 (f := .xis "BadFamily" (.own "BadEntries") false) rfl
theorem x_946 : (Fx.xis "BadFalls" (.own "BadEntries") false).ok K = true := T.c.z.y.fact 946 (f := .xis "BadFalls" (.own "BadEntries") false) rfl
theorem x_947 : (Fx.xis "BadEntries" (.own "BadEntries") true).ok K = true := T.c.z.y.fact 947 (f := .xis "BadEntries" (.own "BadEntries") true) rfl
theorem x_948 : (Fx.xis "BadDeed" (.own "BadEntries") false).ok K = true := T.c.z.y.fact 948 (f := .xis "BadDeed" (.own "BadEntries") false) rfl
theorem x_949 : (Fx.xis "BadCourse" (.own "BadEntries") false).ok K = true := T.c.z.y.fact 949 (f := .xis "BadCourse" (.own "BadEntries") false) rfl
theorem x_950 : (Fx.xis "BadCount" (.own "BadEntries") false).ok K = true := T.c.z.y.fact 950 (f := .xis "BadCount" (.own "BadEntries") false) rfl
theorem x_951 : (Fx.xis "BadBook" (.own "BadEntries") false).ok K = true := T.c.z.y.fact 951 (f := .xis "BadBook" (.own "BadEntries") false) rfl
theorem x_952 : (Fx.kits (.own "BadPrices") [("NoneType", false), ("bool", false), ("int", false), ("str", false), ("tuple", false), ("list", false), ("dict", false)]).ok K = true := T.c.z.y.fact 952 (f := .kits (.own "BadPrices") [("NoneType", false), ("bool", false), ("int", false), ("str", false), ("tuple", false), ("list", false), ("dict", false)]) rfl
theorem x_953 : (Fx.xis "OtherMachines" (.own "BadPrices") false).ok K = true := T.c.z.y.fact 953 (f := .xis "OtherMachines" (.own "BadPrices") false) rfl
theorem x_954 : (Fx.xis "NothingDone" (.own "BadPrices") false).ok K = true := T.c.z.y.fact 954 (f := .xis "NothingDone" (.own "BadPrices") false) rfl
theorem x_955 : (Fx.xis "NotRight" (.own "BadPrices") false).ok K = true := T.c.z.y.fact 955 (f := .xis "NotRight" (.own "BadPrices") false) rfl
theorem x_956 : (Fx.xis "NotNewest" (.own "BadPrices") false).ok K = true := T.c.z.y.fact 956 (f := .xis "NotNewest" (.own "BadPrices") false) rfl
theorem x_957 : (Fx.xis "NoTalk" (.own "BadPrices") false).ok K = true := T.c.z.y.fact 957 (f := .xis "NoTalk" (.own "BadPrices") false) rfl
theorem x_958 : (Fx.xis "NoLots" (.own "BadPrices") false).ok K = true := T.c.z.y.fact 958 (f := .xis "NoLots" (.own "BadPrices") false) rfl
theorem x_959 : (Fx.xis "CutOff" (.own "BadPrices") false).ok K = true := T.c.z.y.fact 959 (f := .xis "CutOff" (.own "BadPrices") false) rfl
theorem x_960 : (Fx.xis "BadWeights" (.own "BadPrices") false).ok K = true := T.c.z.y.fact 960 (f := .xis "BadWeights" (.own "BadPrices") false) rfl
theorem x_961 : (Fx.xis "BadTold" (.own "BadPrices") false).ok K = true := T.c.z.y.fact 961 (f := .xis "BadTold" (.own "BadPrices") false) rfl
theorem x_962 : (Fx.xis "BadText" (.own "BadPrices") false).ok K = true := T.c.z.y.fact 962 (f := .xis "BadText" (.own "BadPrices") false) rfl
theorem x_963 : (Fx.xis "BadStanding" (.own "BadPrices") false).ok K = true := T.c.z.y.fact 963 (f := .xis "BadStanding" (.own "BadPrices") false) rfl
theorem x_964 : (Fx.xis "BadStages" (.own "BadPrices") false).ok K = true := T.c.z.y.fact 964 (f := .xis "BadStages" (.own "BadPrices") false) rfl
theorem x_965 : (Fx.xis "BadSpread" (.own "BadPrices") false).ok K = true := T.c.z.y.fact 965 (f := .xis "BadSpread" (.own "BadPrices") false) rfl
theorem x_966 : (Fx.xis "BadRun" (.own "BadPrices") false).ok K = true := T.c.z.y.fact 966 (f := .xis "BadRun" (.own "BadPrices") false) rfl
theorem x_967 : (Fx.xis "BadRecord" (.own "BadPrices") false).ok K = true := T.c.z.y.fact 967 (f := .xis "BadRecord" (.own "BadPrices") false) rfl
theorem x_968 : (Fx.xis "BadRacks" (.own "BadPrices") false).ok K = true := T.c.z.y.fact 968 (f := .xis "BadRacks" (.own "BadPrices") false) rfl
theorem x_969 : (Fx.xis "BadQuota" (.own "BadPrices") false).ok K = true := T.c.z.y.fact 969 (f := .xis "BadQuota" (.own "BadPrices") false) rfl
theorem x_970 : (Fx.xis "BadPrices" (.own "BadPrices") true).ok K = true := T.c.z.y.fact 970 (f := .xis "BadPrices" (.own "BadPrices") true) rfl
theorem x_971 : (Fx.xis "BadPlace" (.own "BadPrices") false).ok K = true := T.c.z.y.fact 971 (f := .xis "BadPlace" (.own "BadPrices") false) rfl
theorem x_972 : (Fx.xis "BadMachine" (.own "BadPrices") false).ok K = true := T.c.z.y.fact 972 (f := .xis "BadMachine" (.own "BadPrices") false) rfl
theorem x_973 : (Fx.xis "BadLot" (.own "BadPrices") false).ok K = true := T.c.z.y.fact 973 (f := .xis "BadLot" (.own "BadPrices") false) rfl
theorem x_974 : (Fx.xis "BadLog" (.own "BadPrices") false).ok K = true := T.c.z.y.fact 974 (f := .xis "BadLog" (.own "BadPrices") false) rfl
theorem x_975 : (Fx.xis "BadLeft" (.own "BadPrices") false).ok K = true := T.c.z.y.fact 975 (f := .xis "BadLeft" (.own "BadPrices") false) rfl
theorem x_976 : (Fx.xis "BadJournal" (.own "BadPrices") false).ok K = true := T.c.z.y.fact 976 (f := .xis "BadJournal" (.own "BadPrices") false) rfl
theorem x_977 : (Fx.xis "BadIndex" (.own "BadPrices") false).ok K = true := T.c.z.y.fact 977 (f := .xis "BadIndex" (.own "BadPrices") false) rfl
theorem x_978 : (Fx.xis "BadHand" (.own "BadPrices") false).ok K = true := T.c.z.y.fact 978 (f := .xis "BadHand" (.own "BadPrices") false) rfl
theorem x_979 : (Fx.xis "BadFamily" (.own "BadPrices") false).ok K = true := T.c.z.y.fact 979 (f := .xis "BadFamily" (.own "BadPrices") false) rfl
theorem x_980 : (Fx.xis "BadFalls" (.own "BadPrices") false).ok K = true := T.c.z.y.fact 980 (f := .xis "BadFalls" (.own "BadPrices") false) rfl
theorem x_981 : (Fx.xis "BadEntries" (.own "BadPrices") false).ok K = true := T.c.z.y.fact 981 (f := .xis "BadEntries" (.own "BadPrices") false) rfl
theorem x_982 : (Fx.xis "BadDeed" (.own "BadPrices") false).ok K = true := T.c.z.y.fact 982 (f := .xis "BadDeed" (.own "BadPrices") false) rfl
theorem x_983 : (Fx.xis "BadCourse" (.own "BadPrices") false).ok K = true := T.c.z.y.fact 983 (f := .xis "BadCourse" (.own "BadPrices") false) rfl
theorem x_984 : (Fx.xis "BadCount" (.own "BadPrices") false).ok K = true := T.c.z.y.fact 984 (f := .xis "BadCount" (.own "BadPrices") false) rfl
theorem x_985 : (Fx.xis "BadBook" (.own "BadPrices") false).ok K = true := T.c.z.y.fact 985 (f := .xis "BadBook" (.own "BadPrices") false) rfl
theorem x_986 : (Fx.kits (.own "NotRight") [("NoneType", false), ("bool", false), ("int", false), ("str", false), ("tuple", false), ("list", false), ("dict", false)]).ok K = true := T.c.z.y.fact 986 (f := .kits (.own "NotRight") [("NoneType", false), ("bool", false), ("int", false), ("str", false), ("tuple", false), ("list", false), ("dict", false)]) rfl
theorem x_987 : (Fx.xis "OtherMachines" (.own "NotRight") false).ok K = true := T.c.z.y.fact 987 (f := .xis "OtherMachines" (.own "NotRight") false) rfl
theorem x_988 : (Fx.xis "NothingDone" (.own "NotRight") false).ok K = true := T.c.z.y.fact 988 (f := .xis "NothingDone" (.own "NotRight") false) rfl
theorem x_989 : (Fx.xis "NotRight" (.own "NotRight") true).ok K = true := T.c.z.y.fact 989 (f := .xis "NotRight" (.own "NotRight") true) rfl
theorem x_990 : (Fx.xis "NotNewest" (.own "NotRight") false).ok K = true := T.c.z.y.fact 990 (f := .xis "NotNewest" (.own "NotRight") false) rfl
theorem x_991 : (Fx.xis "NoTalk" (.own "NotRight") false).ok K = true := T.c.z.y.fact 991 (f := .xis "NoTalk" (.own "NotRight") false) rfl
theorem x_992 : (Fx.xis "NoLots" (.own "NotRight") false).ok K = true := T.c.z.y.fact 992 (f := .xis "NoLots" (.own "NotRight") false) rfl
theorem x_993 : (Fx.xis "CutOff" (.own "NotRight") false).ok K = true := T.c.z.y.fact 993 (f := .xis "CutOff" (.own "NotRight") false) rfl
theorem x_994 : (Fx.xis "BadWeights" (.own "NotRight") false).ok K = true := T.c.z.y.fact 994 (f := .xis "BadWeights" (.own "NotRight") false) rfl
theorem x_995 : (Fx.xis "BadTold" (.own "NotRight") false).ok K = true := T.c.z.y.fact 995 (f := .xis "BadTold" (.own "NotRight") false) rfl
theorem x_996 : (Fx.xis "BadText" (.own "NotRight") false).ok K = true := T.c.z.y.fact 996 (f := .xis "BadText" (.own "NotRight") false) rfl
theorem x_997 : (Fx.xis "BadStanding" (.own "NotRight") false).ok K = true := T.c.z.y.fact 997 (f := .xis "BadStanding" (.own "NotRight") false) rfl
theorem x_998 : (Fx.xis "BadStages" (.own "NotRight") false).ok K = true := T.c.z.y.fact 998 (f := .xis "BadStages" (.own "NotRight") false) rfl
theorem x_999 : (Fx.xis "BadSpread" (.own "NotRight") false).ok K = true := T.c.z.y.fact 999 (f := .xis "BadSpread" (.own "NotRight") false) rfl
theorem x_1000 : (Fx.xis "BadRun" (.own "NotRight") false).ok K = true := T.c.z.y.fact 1000 (f := .xis "BadRun" (.own "NotRight") false) rfl
theorem x_1001 : (Fx.xis "BadRecord" (.own "NotRight") false).ok K = true := T.c.z.y.fact 1001 (f := .xis "BadRecord" (.own "NotRight") false) rfl
theorem x_1002 : (Fx.xis "BadRacks" (.own "NotRight") false).ok K = true := T.c.z.y.fact 1002 (f := .xis "BadRacks" (.own "NotRight") false) rfl
theorem x_1003 : (Fx.xis "BadQuota" (.own "NotRight") false).ok K = true := T.c.z.y.fact 1003 (f := .xis "BadQuota" (.own "NotRight") false) rfl
theorem x_1004 : (Fx.xis "BadPrices" (.own "NotRight") false).ok K = true := T.c.z.y.fact 1004 (f := .xis "BadPrices" (.own "NotRight") false) rfl
theorem x_1005 : (Fx.xis "BadPlace" (.own "NotRight") false).ok K = true := T.c.z.y.fact 1005 (f := .xis "BadPlace" (.own "NotRight") false) rfl
theorem x_1006 : (Fx.xis "BadMachine" (.own "NotRight") false).ok K = true := T.c.z.y.fact 1006 (f := .xis "BadMachine" (.own "NotRight") false) rfl
theorem x_1007 : (Fx.xis "BadLot" (.own "NotRight") false).ok K = true := T.c.z.y.fact 1007 (f := .xis "BadLot" (.own "NotRight") false) rfl
theorem x_1008 : (Fx.xis "BadLog" (.own "NotRight") false).ok K = true := T.c.z.y.fact 1008 (f := .xis "BadLog" (.own "NotRight") false) rfl
theorem x_1009 : (Fx.xis "BadLeft" (.own "NotRight") false).ok K = true := T.c.z.y.fact 1009 (f := .xis "BadLeft" (.own "NotRight") false) rfl
theorem x_1010 : (Fx.xis "BadJournal" (.own "NotRight") false).ok K = true := T.c.z.y.fact 1010 (f := .xis "BadJournal" (.own "NotRight") false) rfl
theorem x_1011 : (Fx.xis "BadIndex" (.own "NotRight") false).ok K = true := T.c.z.y.fact 1011 (f := .xis "BadIndex" (.own "NotRight") false) rfl
theorem x_1012 : (Fx.xis "BadHand" (.own "NotRight") false).ok K = true := T.c.z.y.fact 1012 (f := .xis "BadHand" (.own "NotRight") false) rfl
theorem x_1013 : (Fx.xis "BadFamily" (.own "NotRight") false).ok K = true := T.c.z.y.fact 1013 (f := .xis "BadFamily" (.own "NotRight") false) rfl
theorem x_1014 : (Fx.xis "BadFalls" (.own "NotRight") false).ok K = true := T.c.z.y.fact 1014 (f := .xis "BadFalls" (.own "NotRight") false) rfl
theorem x_1015 : (Fx.xis "BadEntries" (.own "NotRight") false).ok K = true := T.c.z.y.fact 1015 (f := .xis "BadEntries" (.own "NotRight") false) rfl
theorem x_1016 : (Fx.xis "BadDeed" (.own "NotRight") false).ok K = true := T.c.z.y.fact 1016 (f := .xis "BadDeed" (.own "NotRight") false) rfl
theorem x_1017 : (Fx.xis "BadCourse" (.own "NotRight") false).ok K = true := T.c.z.y.fact 1017 (f := .xis "BadCourse" (.own "NotRight") false) rfl
theorem x_1018 : (Fx.xis "BadCount" (.own "NotRight") false).ok K = true := T.c.z.y.fact 1018 (f := .xis "BadCount" (.own "NotRight") false) rfl
theorem x_1019 : (Fx.xis "BadBook" (.own "NotRight") false).ok K = true := T.c.z.y.fact 1019 (f := .xis "BadBook" (.own "NotRight") false) rfl
theorem x_1020 : (Fx.kits (.own "NotNewest") [("NoneType", false), ("bool", false), ("int", false), ("str", false), ("tuple", false), ("list", false), ("dict", false)]).ok K = true := T.c.z.y.fact 1020 (f := .kits (.own "NotNewest") [("NoneType", false), ("bool", false), ("int", false), ("str", false), ("tuple", false), ("list", false), ("dict", false)]) rfl
theorem x_1021 : (Fx.xis "OtherMachines" (.own "NotNewest") false).ok K = true := T.c.z.y.fact 1021 (f := .xis "OtherMachines" (.own "NotNewest") false) rfl
theorem x_1022 : (Fx.xis "NothingDone" (.own "NotNewest") false).ok K = true := T.c.z.y.fact 1022 (f := .xis "NothingDone" (.own "NotNewest") false) rfl
theorem x_1023 : (Fx.xis "NotRight" (.own "NotNewest") false).ok K = true := T.c.z.y.fact 1023 (f := .xis "NotRight" (.own "NotNewest") false) rfl
theorem x_1024 : (Fx.xis "NotNewest" (.own "NotNewest") true).ok K = true := T.c.z.y.fact 1024 (f := .xis "NotNewest" (.own "NotNewest") true) rfl
theorem x_1025 : (Fx.xis "NoTalk" (.own "NotNewest") false).ok K = true := T.c.z.y.fact 1025 (f := .xis "NoTalk" (.own "NotNewest") false) rfl
theorem x_1026 : (Fx.xis "NoLots" (.own "NotNewest") false).ok K = true := T.c.z.y.fact 1026 (f := .xis "NoLots" (.own "NotNewest") false) rfl
theorem x_1027 : (Fx.xis "CutOff" (.own "NotNewest") false).ok K = true := T.c.z.y.fact 1027 (f := .xis "CutOff" (.own "NotNewest") false) rfl
theorem x_1028 : (Fx.xis "BadWeights" (.own "NotNewest") false).ok K = true := T.c.z.y.fact 1028 (f := .xis "BadWeights" (.own "NotNewest") false) rfl
theorem x_1029 : (Fx.xis "BadTold" (.own "NotNewest") false).ok K = true := T.c.z.y.fact 1029 (f := .xis "BadTold" (.own "NotNewest") false) rfl
theorem x_1030 : (Fx.xis "BadText" (.own "NotNewest") false).ok K = true := T.c.z.y.fact 1030 (f := .xis "BadText" (.own "NotNewest") false) rfl
theorem x_1031 : (Fx.xis "BadStanding" (.own "NotNewest") false).ok K = true := T.c.z.y.fact 1031 (f := .xis "BadStanding" (.own "NotNewest") false) rfl
theorem x_1032 : (Fx.xis "BadStages" (.own "NotNewest") false).ok K = true := T.c.z.y.fact 1032 (f := .xis "BadStages" (.own "NotNewest") false) rfl
theorem x_1033 : (Fx.xis "BadSpread" (.own "NotNewest") false).ok K = true := T.c.z.y.fact 1033 (f := .xis "BadSpread" (.own "NotNewest") false) rfl
theorem x_1034 : (Fx.xis "BadRun" (.own "NotNewest") false).ok K = true := T.c.z.y.fact 1034 (f := .xis "BadRun" (.own "NotNewest") false) rfl
theorem x_1035 : (Fx.xis "BadRecord" (.own "NotNewest") false).ok K = true := T.c.z.y.fact 1035 (f := .xis "BadRecord" (.own "NotNewest") false) rfl
theorem x_1036 : (Fx.xis "BadRacks" (.own "NotNewest") false).ok K = true := T.c.z.y.fact 1036 (f := .xis "BadRacks" (.own "NotNewest") false) rfl
theorem x_1037 : (Fx.xis "BadQuota" (.own "NotNewest") false).ok K = true := T.c.z.y.fact 1037 (f := .xis "BadQuota" (.own "NotNewest") false) rfl
theorem x_1038 : (Fx.xis "BadPrices" (.own "NotNewest") false).ok K = true := T.c.z.y.fact 1038 (f := .xis "BadPrices" (.own "NotNewest") false) rfl
theorem x_1039 : (Fx.xis "BadPlace" (.own "NotNewest") false).ok K = true := T.c.z.y.fact 1039 (f := .xis "BadPlace" (.own "NotNewest") false) rfl
theorem x_1040 : (Fx.xis "BadMachine" (.own "NotNewest") false).ok K = true := T.c.z.y.fact 1040 (f := .xis "BadMachine" (.own "NotNewest") false) rfl
theorem x_1041 : (Fx.xis "BadLot" (.own "NotNewest") false).ok K = true := T.c.z.y.fact 1041 (f := .xis "BadLot" (.own "NotNewest") false) rfl
theorem x_1042 : (Fx.xis "BadLog" (.own "NotNewest") false).ok K = true := T.c.z.y.fact 1042 (f := .xis "BadLog" (.own "NotNewest") false) rfl
theorem x_1043 : (Fx.xis "BadLeft" (.own "NotNewest") false).ok K = true := T.c.z.y.fact 1043 (f := .xis "BadLeft" (.own "NotNewest") false) rfl
theorem x_1044 : (Fx.xis "BadJournal" (.own "NotNewest") false).ok K = true := T.c.z.y.fact 1044 (f := .xis "BadJournal" (.own "NotNewest") false) rfl
theorem x_1045 : (Fx.xis "BadIndex" (.own "NotNewest") false).ok K = true := T.c.z.y.fact 1045 (f := .xis "BadIndex" (.own "NotNewest") false) rfl
theorem x_1046 : (Fx.xis "BadHand" (.own "NotNewest") false).ok K = true := T.c.z.y.fact 1046 (f := .xis "BadHand" (.own "NotNewest") false) rfl
theorem x_1047 : (Fx.xis "BadFamily" (.own "NotNewest") false).ok K = true := T.c.z.y.fact 1047 (f := .xis "BadFamily" (.own "NotNewest") false) rfl
theorem x_1048 : (Fx.xis "BadFalls" (.own "NotNewest") false).ok K = true := T.c.z.y.fact 1048 (f := .xis "BadFalls" (.own "NotNewest") false) rfl
theorem x_1049 : (Fx.xis "BadEntries" (.own "NotNewest") false).ok K = true := T.c.z.y.fact 1049 (f := .xis "BadEntries" (.own "NotNewest") false) rfl
theorem x_1050 : (Fx.xis "BadDeed" (.own "NotNewest") false).ok K = true := T.c.z.y.fact 1050 (f := .xis "BadDeed" (.own "NotNewest") false) rfl
theorem x_1051 : (Fx.xis "BadCourse" (.own "NotNewest") false).ok K = true := T.c.z.y.fact 1051 (f := .xis "BadCourse" (.own "NotNewest") false) rfl
theorem x_1052 : (Fx.xis "BadCount" (.own "NotNewest") false).ok K = true := T.c.z.y.fact 1052 (f := .xis "BadCount" (.own "NotNewest") false) rfl
theorem x_1053 : (Fx.xis "BadBook" (.own "NotNewest") false).ok K = true := T.c.z.y.fact 1053 (f := .xis "BadBook" (.own "NotNewest") false) rfl
theorem x_1054 : (Fx.kits (.own "BadRun") [("NoneType", false), ("bool", false), ("int", false), ("str", false), ("tuple", false), ("list", false), ("dict", false)]).ok K = true := T.c.z.y.fact 1054 (f := .kits (.own "BadRun") [("NoneType", false), ("bool", false), ("int", false), ("str", false), ("tuple", false), ("list", false), ("dict", false)]) rfl
theorem x_1055 : (Fx.xis "OtherMachines" (.own "BadRun") false).ok K = true := T.c.z.y.fact 1055 (f := .xis "OtherMachines" (.own "BadRun") false) rfl
theorem x_1056 : (Fx.xis "NothingDone" (.own "BadRun") false).ok K = true := T.c.z.y.fact 1056 (f := .xis "NothingDone" (.own "BadRun") false) rfl
theorem x_1057 : (Fx.xis "NotRight" (.own "BadRun") false).ok K = true := T.c.z.y.fact 1057 (f := .xis "NotRight" (.own "BadRun") false) rfl
theorem x_1058 : (Fx.xis "NotNewest" (.own "BadRun") false).ok K = true := T.c.z.y.fact 1058 (f := .xis "NotNewest" (.own "BadRun") false) rfl
theorem x_1059 : (Fx.xis "NoTalk" (.own "BadRun") false).ok K = true := T.c.z.y.fact 1059 (f := .xis "NoTalk" (.own "BadRun") false) rfl
theorem x_1060 : (Fx.xis "NoLots" (.own "BadRun") false).ok K = true := T.c.z.y.fact 1060 (f := .xis "NoLots" (.own "BadRun") false) rfl
theorem x_1061 : (Fx.xis "CutOff" (.own "BadRun") false).ok K = true := T.c.z.y.fact 1061 (f := .xis "CutOff" (.own "BadRun") false) rfl
theorem x_1062 : (Fx.xis "BadWeights" (.own "BadRun") false).ok K = true := T.c.z.y.fact 1062 (f := .xis "BadWeights" (.own "BadRun") false) rfl
theorem x_1063 : (Fx.xis "BadTold" (.own "BadRun") false).ok K = true := T.c.z.y.fact 1063 (f := .xis "BadTold" (.own "BadRun") false) rfl
theorem x_1064 : (Fx.xis "BadText" (.own "BadRun") false).ok K = true := T.c.z.y.fact 1064 (f := .xis "BadText" (.own "BadRun") false) rfl
theorem x_1065 : (Fx.xis "BadStanding" (.own "BadRun") false).ok K = true := T.c.z.y.fact 1065 (f := .xis "BadStanding" (.own "BadRun") false) rfl
theorem x_1066 : (Fx.xis "BadStages" (.own "BadRun") false).ok K = true := T.c.z.y.fact 1066 (f := .xis "BadStages" (.own "BadRun") false) rfl
theorem x_1067 : (Fx.xis "BadSpread" (.own "BadRun") false).ok K = true := T.c.z.y.fact 1067 (f := .xis "BadSpread" (.own "BadRun") false) rfl
theorem x_1068 : (Fx.xis "BadRun" (.own "BadRun") true).ok K = true := T.c.z.y.fact 1068 (f := .xis "BadRun" (.own "BadRun") true) rfl
theorem x_1069 : (Fx.xis "BadRecord" (.own "BadRun") false).ok K = true := T.c.z.y.fact 1069 (f := .xis "BadRecord" (.own "BadRun") false) rfl
theorem x_1070 : (Fx.xis "BadRacks" (.own "BadRun") false).ok K = true := T.c.z.y.fact 1070 (f := .xis "BadRacks" (.own "BadRun") false) rfl
theorem x_1071 : (Fx.xis "BadQuota" (.own "BadRun") false).ok K = true := T.c.z.y.fact 1071 (f := .xis "BadQuota" (.own "BadRun") false) rfl
theorem x_1072 : (Fx.xis "BadPrices" (.own "BadRun") false).ok K = true := T.c.z.y.fact 1072 (f := .xis "BadPrices" (.own "BadRun") false) rfl
theorem x_1073 : (Fx.xis "BadPlace" (.own "BadRun") false).ok K = true := T.c.z.y.fact 1073 (f := .xis "BadPlace" (.own "BadRun") false) rfl
theorem x_1074 : (Fx.xis "BadMachine" (.own "BadRun") false).ok K = true := T.c.z.y.fact 1074 (f := .xis "BadMachine" (.own "BadRun") false) rfl
theorem x_1075 : (Fx.xis "BadLot" (.own "BadRun") false).ok K = true := T.c.z.y.fact 1075 (f := .xis "BadLot" (.own "BadRun") false) rfl
theorem x_1076 : (Fx.xis "BadLog" (.own "BadRun") false).ok K = true := T.c.z.y.fact 1076 (f := .xis "BadLog" (.own "BadRun") false) rfl
theorem x_1077 : (Fx.xis "BadLeft" (.own "BadRun") false).ok K = true := T.c.z.y.fact 1077 (f := .xis "BadLeft" (.own "BadRun") false) rfl
theorem x_1078 : (Fx.xis "BadJournal" (.own "BadRun") false).ok K = true := T.c.z.y.fact 1078 (f := .xis "BadJournal" (.own "BadRun") false) rfl
theorem x_1079 : (Fx.xis "BadIndex" (.own "BadRun") false).ok K = true := T.c.z.y.fact 1079 (f := .xis "BadIndex" (.own "BadRun") false) rfl
theorem x_1080 : (Fx.xis "BadHand" (.own "BadRun") false).ok K = true := T.c.z.y.fact 1080 (f := .xis "BadHand" (.own "BadRun") false) rfl
theorem x_1081 : (Fx.xis "BadFamily" (.own "BadRun") false).ok K = true := T.c.z.y.fact 1081 (f := .xis "BadFamily" (.own "BadRun") false) rfl
theorem x_1082 : (Fx.xis "BadFalls" (.own "BadRun") false).ok K = true := T.c.z.y.fact 1082 (f := .xis "BadFalls" (.own "BadRun") false) rfl
theorem x_1083 : (Fx.xis "BadEntries" (.own "BadRun") false).ok K = true := T.c.z.y.fact 1083 (f := .xis "BadEntries" (.own "BadRun") false) rfl
theorem x_1084 : (Fx.xis "BadDeed" (.own "BadRun") false).ok K = true := T.c.z.y.fact 1084 (f := .xis "BadDeed" (.own "BadRun") false) rfl
theorem x_1085 : (Fx.xis "BadCourse" (.own "BadRun") false).ok K = true := T.c.z.y.fact 1085 (f := .xis "BadCourse" (.own "BadRun") false) rfl
theorem x_1086 : (Fx.xis "BadCount" (.own "BadRun") false).ok K = true := T.c.z.y.fact 1086 (f := .xis "BadCount" (.own "BadRun") false) rfl
theorem x_1087 : (Fx.xis "BadBook" (.own "BadRun") false).ok K = true := T.c.z.y.fact 1087 (f := .xis "BadBook" (.own "BadRun") false) rfl
theorem x_1088 : (Fx.kits (.own "BadSpread") [("NoneType", false), ("bool", false), ("int", false), ("str", false), ("tuple", false), ("list", false), ("dict", false)]).ok K = true := T.c.z.y.fact 1088 (f := .kits (.own "BadSpread") [("NoneType", false), ("bool", false), ("int", false), ("str", false), ("tuple", false), ("list", false), ("dict", false)]) rfl
theorem x_1089 : (Fx.xis "OtherMachines" (.own "BadSpread") false).ok K = true := T.c.z.y.fact 1089 (f := .xis "OtherMachines" (.own "BadSpread") false) rfl
theorem x_1090 : (Fx.xis "NothingDone" (.own "BadSpread") false).ok K = true := T.c.z.y.fact 1090 (f := .xis "NothingDone" (.own "BadSpread") false) rfl
theorem x_1091 : (Fx.xis "NotRight" (.own "BadSpread") false).ok K = true := T.c.z.y.fact 1091 (f := .xis "NotRight" (.own "BadSpread") false) rfl
theorem x_1092 : (Fx.xis "NotNewest" (.own "BadSpread") false).ok K = true := T.c.z.y.fact 1092 (f := .xis "NotNewest" (.own "BadSpread") false) rfl
theorem x_1093 : (Fx.xis "NoTalk" (.own "BadSpread") false).ok K = true := T.c.z.y.fact 1093 (f := .xis "NoTalk" (.own "BadSpread") false) rfl
theorem x_1094 : (Fx.xis "NoLots" (.own "BadSpread") false).ok K = true := T.c.z.y.fact 1094 (f := .xis "NoLots" (.own "BadSpread") false) rfl
theorem x_1095 : (Fx.xis "CutOff" (.own "BadSpread") false).ok K = true := T.c.z.y.fact 1095 (f := .xis "CutOff" (.own "BadSpread") false) rfl
theorem x_1096 : (Fx.xis "BadWeights" (.own "BadSpread") false).ok K = true := T.c.z.y.fact 1096 (f := .xis "BadWeights" (.own "BadSpread") false) rfl
theorem x_1097 : (Fx.xis "BadTold" (.own "BadSpread") false).ok K = true := T.c.z.y.fact 1097 (f := .xis "BadTold" (.own "BadSpread") false) rfl
theorem x_1098 : (Fx.xis "BadText" (.own "BadSpread") false).ok K = true := T.c.z.y.fact 1098 (f := .xis "BadText" (.own "BadSpread") false) rfl
theorem x_1099 : (Fx.xis "BadStanding" (.own "BadSpread") false).ok K = true := T.c.z.y.fact 1099 (f := .xis "BadStanding" (.own "BadSpread") false) rfl
theorem x_1100 : (Fx.xis "BadStages" (.own "BadSpread") false).ok K = true := T.c.z.y.fact 1100 (f := .xis "BadStages" (.own "BadSpread") false) rfl
theorem x_1101 : (Fx.xis "BadSpread" (.own "BadSpread") true).ok K = true := T.c.z.y.fact 1101 (f := .xis "BadSpread" (.own "BadSpread") true) rfl
theorem x_1102 : (Fx.xis "BadRun" (.own "BadSpread") false).ok K = true := T.c.z.y.fact 1102 (f := .xis "BadRun" (.own "BadSpread") false) rfl
theorem x_1103 : (Fx.xis "BadRecord" (.own "BadSpread") false).ok K = true := T.c.z.y.fact 1103 (f := .xis "BadRecord" (.own "BadSpread") false) rfl
theorem x_1104 : (Fx.xis "BadRacks" (.own "BadSpread") false).ok K = true := T.c.z.y.fact 1104 (f := .xis "BadRacks" (.own "BadSpread") false) rfl
theorem x_1105 : (Fx.xis "BadQuota" (.own "BadSpread") false).ok K = true := T.c.z.y.fact 1105 (f := .xis "BadQuota" (.own "BadSpread") false) rfl
theorem x_1106 : (Fx.xis "BadPrices" (.own "BadSpread") false).ok K = true := T.c.z.y.fact 1106 (f := .xis "BadPrices" (.own "BadSpread") false) rfl
theorem x_1107 : (Fx.xis "BadPlace" (.own "BadSpread") false).ok K = true := T.c.z.y.fact 1107 (f := .xis "BadPlace" (.own "BadSpread") false) rfl
theorem x_1108 : (Fx.xis "BadMachine" (.own "BadSpread") false).ok K = true := T.c.z.y.fact 1108 (f := .xis "BadMachine" (.own "BadSpread") false) rfl
theorem x_1109 : (Fx.xis "BadLot" (.own "BadSpread") false).ok K = true := T.c.z.y.fact 1109 (f := .xis "BadLot" (.own "BadSpread") false) rfl
theorem x_1110 : (Fx.xis "BadLog" (.own "BadSpread") false).ok K = true := T.c.z.y.fact 1110 (f := .xis "BadLog" (.own "BadSpread") false) rfl
theorem x_1111 : (Fx.xis "BadLeft" (.own "BadSpread") false).ok K = true := T.c.z.y.fact 1111 (f := .xis "BadLeft" (.own "BadSpread") false) rfl
theorem x_1112 : (Fx.xis "BadJournal" (.own "BadSpread") false).ok K = true := T.c.z.y.fact 1112 (f := .xis "BadJournal" (.own "BadSpread") false) rfl
theorem x_1113 : (Fx.xis "BadIndex" (.own "BadSpread") false).ok K = true := T.c.z.y.fact 1113 (f := .xis "BadIndex" (.own "BadSpread") false) rfl
theorem x_1114 : (Fx.xis "BadHand" (.own "BadSpread") false).ok K = true := T.c.z.y.fact 1114 (f := .xis "BadHand" (.own "BadSpread") false) rfl
theorem x_1115 : (Fx.xis "BadFamily" (.own "BadSpread") false).ok K = true := T.c.z.y.fact 1115 (f := .xis "BadFamily" (.own "BadSpread") false) rfl
theorem x_1116 : (Fx.xis "BadFalls" (.own "BadSpread") false).ok K = true := T.c.z.y.fact 1116 (f := .xis "BadFalls" (.own "BadSpread") false) rfl
theorem x_1117 : (Fx.xis "BadEntries" (.own "BadSpread") false).ok K = true := T.c.z.y.fact 1117 (f := .xis "BadEntries" (.own "BadSpread") false) rfl
theorem x_1118 : (Fx.xis "BadDeed" (.own "BadSpread") false).ok K = true := T.c.z.y.fact 1118 (f := .xis "BadDeed" (.own "BadSpread") false) rfl
theorem x_1119 : (Fx.xis "BadCourse" (.own "BadSpread") false).ok K = true := T.c.z.y.fact 1119 (f := .xis "BadCourse" (.own "BadSpread") false) rfl
theorem x_1120 : (Fx.xis "BadCount" (.own "BadSpread") false).ok K = true := T.c.z.y.fact 1120 (f := .xis "BadCount" (.own "BadSpread") false) rfl
theorem x_1121 : (Fx.xis "BadBook" (.own "BadSpread") false).ok K = true := T.c.z.y.fact 1121 (f := .xis "BadBook" (.own "BadSpread") false) rfl
theorem x_1122 : (Fx.kits (.own "NoLots") [("NoneType", false), ("bool", false), ("int", false), ("str", false), ("tuple", false), ("list", false), ("dict", false)]).ok K = true := T.c.z.y.fact 1122 (f := .kits (.own "NoLots") [("NoneType", false), ("bool", false), ("int", false), ("str", false), ("tuple", false), ("list", false), ("dict", false)]) rfl
theorem x_1123 : (Fx.xis "OtherMachines" (.own "NoLots") false).ok K = true := T.c.z.y.fact 1123 (f := .xis "OtherMachines" (.own "NoLots") false) rfl
theorem x_1124 : (Fx.xis "NothingDone" (.own "NoLots") false).ok K = true := T.c.z.y.fact 1124 (f := .xis "NothingDone" (.own "NoLots") false) rfl
theorem x_1125 : (Fx.xis "NotRight" (.own "NoLots") false).ok K = true := T.c.z.y.fact 1125 (f := .xis "NotRight" (.own "NoLots") false) rfl
theorem x_1126 : (Fx.xis "NotNewest" (.own "NoLots") false).ok K = true := T.c.z.y.fact 1126 (f := .xis "NotNewest" (.own "NoLots") false) rfl
theorem x_1127 : (Fx.xis "NoTalk" (.own "NoLots") false).ok K = true := T.c.z.y.fact 1127 (f := .xis "NoTalk" (.own "NoLots") false) rfl
theorem x_1128 : (Fx.xis "NoLots" (.own "NoLots") true).ok K = true := T.c.z.y.fact 1128 (f := .xis "NoLots" (.own "NoLots") true) rfl
theorem x_1129 : (Fx.xis "CutOff" (.own "NoLots") false).ok K = true := T.c.z.y.fact 1129 (f := .xis "CutOff" (.own "NoLots") false) rfl
theorem x_1130 : (Fx.xis "BadWeights" (.own "NoLots") false).ok K = true := T.c.z.y.fact 1130 (f := .xis "BadWeights" (.own "NoLots") false) rfl
theorem x_1131 : (Fx.xis "BadTold" (.own "NoLots") false).ok K = true := T.c.z.y.fact 1131 (f := .xis "BadTold" (.own "NoLots") false) rfl
theorem x_1132 : (Fx.xis "BadText" (.own "NoLots") false).ok K = true := T.c.z.y.fact 1132 (f := .xis "BadText" (.own "NoLots") false) rfl
theorem x_1133 : (Fx.xis "BadStanding" (.own "NoLots") false).ok K = true := T.c.z.y.fact 1133 (f := .xis "BadStanding" (.own "NoLots") false) rfl
theorem x_1134 : (Fx.xis "BadStages" (.own "NoLots") false).ok K = true := T.c.z.y.fact 1134 (f := .xis "BadStages" (.own "NoLots") false) rfl
theorem x_1135 : (Fx.xis "BadSpread" (.own "NoLots") false).ok K = true := T.c.z.y.fact 1135 (f := .xis "BadSpread" (.own "NoLots") false) rfl
theorem x_1136 : (Fx.xis "BadRun" (.own "NoLots") false).ok K = true := T.c.z.y.fact 1136 (f := .xis "BadRun" (.own "NoLots") false) rfl
theorem x_1137 : (Fx.xis "BadRecord" (.own "NoLots") false).ok K = true := T.c.z.y.fact 1137 (f := .xis "BadRecord" (.own "NoLots") false) rfl
theorem x_1138 : (Fx.xis "BadRacks" (.own "NoLots") false).ok K = true := T.c.z.y.fact 1138 (f := .xis "BadRacks" (.own "NoLots") false) rfl
theorem x_1139 : (Fx.xis "BadQuota" (.own "NoLots") false).ok K = true := T.c.z.y.fact 1139 (f := .xis "BadQuota" (.own "NoLots") false) rfl
theorem x_1140 : (Fx.xis "BadPrices" (.own "NoLots") false).ok K = true := T.c.z.y.fact 1140 (f := .xis "BadPrices" (.own "NoLots") false) rfl
theorem x_1141 : (Fx.xis "BadPlace" (.own "NoLots") false).ok K = true := T.c.z.y.fact 1141 (f := .xis "BadPlace" (.own "NoLots") false) rfl
theorem x_1142 : (Fx.xis "BadMachine" (.own "NoLots") false).ok K = true := T.c.z.y.fact 1142 (f := .xis "BadMachine" (.own "NoLots") false) rfl
theorem x_1143 : (Fx.xis "BadLot" (.own "NoLots") false).ok K = true := T.c.z.y.fact 1143 (f := .xis "BadLot" (.own "NoLots") false) rfl
theorem x_1144 : (Fx.xis "BadLog" (.own "NoLots") false).ok K = true := T.c.z.y.fact 1144 (f := .xis "BadLog" (.own "NoLots") false) rfl
theorem x_1145 : (Fx.xis "BadLeft" (.own "NoLots") false).ok K = true := T.c.z.y.fact 1145 (f := .xis "BadLeft" (.own "NoLots") false) rfl
theorem x_1146 : (Fx.xis "BadJournal" (.own "NoLots") false).ok K = true := T.c.z.y.fact 1146 (f := .xis "BadJournal" (.own "NoLots") false) rfl
theorem x_1147 : (Fx.xis "BadIndex" (.own "NoLots") false).ok K = true := T.c.z.y.fact 1147 (f := .xis "BadIndex" (.own "NoLots") false) rfl
theorem x_1148 : (Fx.xis "BadHand" (.own "NoLots") false).ok K = true := T.c.z.y.fact 1148 (f := .xis "BadHand" (.own "NoLots") false) rfl
theorem x_1149 : (Fx.xis "BadFamily" (.own "NoLots") false).ok K = true := T.c.z.y.fact 1149 (f := .xis "BadFamily" (.own "NoLots") false) rfl
theorem x_1150 : (Fx.xis "BadFalls" (.own "NoLots") false).ok K = true := T.c.z.y.fact 1150 (f := .xis "BadFalls" (.own "NoLots") false) rfl
theorem x_1151 : (Fx.xis "BadEntries" (.own "NoLots") false).ok K = true := T.c.z.y.fact 1151 (f := .xis "BadEntries" (.own "NoLots") false) rfl
theorem x_1152 : (Fx.xis "BadDeed" (.own "NoLots") false).ok K = true := T.c.z.y.fact 1152 (f := .xis "BadDeed" (.own "NoLots") false) rfl
theorem x_1153 : (Fx.xis "BadCourse" (.own "NoLots") false).ok K = true := T.c.z.y.fact 1153 (f := .xis "BadCourse" (.own "NoLots") false) rfl
theorem x_1154 : (Fx.xis "BadCount" (.own "NoLots") false).ok K = true := T.c.z.y.fact 1154 (f := .xis "BadCount" (.own "NoLots") false) rfl
theorem x_1155 : (Fx.xis "BadBook" (.own "NoLots") false).ok K = true := T.c.z.y.fact 1155 (f := .xis "BadBook" (.own "NoLots") false) rfl
theorem x_1156 : (Fx.kits (.own "BadCourse") [("NoneType", false), ("bool", false), ("int", false), ("str", false), ("tuple", false), ("list", false), ("dict", false)]).ok K = true := T.c.z.y.fact 1156 (f := .kits (.own "BadCourse") [("NoneType", false), ("bool", false), ("int", false), ("str", false), ("tuple", false), ("list", false), ("dict", false)]) rfl
theorem x_1157 : (Fx.xis "OtherMachines" (.own "BadCourse") false).ok K = true := T.c.z.y.fact 1157 (f := .xis "OtherMachines" (.own "BadCourse") false) rfl
theorem x_1158 : (Fx.xis "NothingDone" (.own "BadCourse") false).ok K = true := T.c.z.y.fact 1158 (f := .xis "NothingDone" (.own "BadCourse") false) rfl
theorem x_1159 : (Fx.xis "NotRight" (.own "BadCourse") false).ok K = true := T.c.z.y.fact 1159 (f := .xis "NotRight" (.own "BadCourse") false) rfl
theorem x_1160 : (Fx.xis "NotNewest" (.own "BadCourse") false).ok K = true := T.c.z.y.fact 1160 (f := .xis "NotNewest" (.own "BadCourse") false) rfl
theorem x_1161 : (Fx.xis "NoTalk" (.own "BadCourse") false).ok K = true := T.c.z.y.fact 1161 (f := .xis "NoTalk" (.own "BadCourse") false) rfl
theorem x_1162 : (Fx.xis "NoLots" (.own "BadCourse") false).ok K = true := T.c.z.y.fact 1162 (f := .xis "NoLots" (.own "BadCourse") false) rfl
theorem x_1163 : (Fx.xis "CutOff" (.own "BadCourse") false).ok K = true := T.c.z.y.fact 1163 (f := .xis "CutOff" (.own "BadCourse") false) rfl
theorem x_1164 : (Fx.xis "BadWeights" (.own "BadCourse") false).ok K = true := T.c.z.y.fact 1164 (f := .xis "BadWeights" (.own "BadCourse") false) rfl
theorem x_1165 : (Fx.xis "BadTold" (.own "BadCourse") false).ok K = true := T.c.z.y.fact 1165 (f := .xis "BadTold" (.own "BadCourse") false) rfl
theorem x_1166 : (Fx.xis "BadText" (.own "BadCourse") false).ok K = true := T.c.z.y.fact 1166 (f := .xis "BadText" (.own "BadCourse") false) rfl
theorem x_1167 : (Fx.xis "BadStanding" (.own "BadCourse") false).ok K = true := T.c.z.y.fact 1167 (f := .xis "BadStanding" (.own "BadCourse") false) rfl
theorem x_1168 : (Fx.xis "BadStages" (.own "BadCourse") false).ok K = true := T.c.z.y.fact 1168 (f := .xis "BadStages" (.own "BadCourse") false) rfl
theorem x_1169 : (Fx.xis "BadSpread" (.own "BadCourse") false).ok K = true := T.c.z.y.fact 1169 (f := .xis "BadSpread" (.own "BadCourse") false) rfl
theorem x_1170 : (Fx.xis "BadRun" (.own "BadCourse") false).ok K = true := T.c.z.y.fact 1170 (f := .xis "BadRun" (.own "BadCourse") false) rfl
theorem x_1171 : (Fx.xis "BadRecord" (.own "BadCourse") false).ok K = true := T.c.z.y.fact 1171 (f := .xis "BadRecord" (.own "BadCourse") false) rfl
theorem x_1172 : (Fx.xis "BadRacks" (.own "BadCourse") false).ok K = true := T.c.z.y.fact 1172 (f := .xis "BadRacks" (.own "BadCourse") false) rfl
theorem x_1173 : (Fx.xis "BadQuota" (.own "BadCourse") false).ok K = true := T.c.z.y.fact 1173 (f := .xis "BadQuota" (.own "BadCourse") false) rfl
theorem x_1174 : (Fx.xis "BadPrices" (.own "BadCourse") false).ok K = true := T.c.z.y.fact 1174 (f := .xis "BadPrices" (.own "BadCourse") false) rfl
theorem x_1175 : (Fx.xis "BadPlace" (.own "BadCourse") false).ok K = true := T.c.z.y.fact 1175 (f := .xis "BadPlace" (.own "BadCourse") false) rfl
theorem x_1176 : (Fx.xis "BadMachine" (.own "BadCourse") false).ok K = true := T.c.z.y.fact 1176 (f := .xis "BadMachine" (.own "BadCourse") false) rfl
theorem x_1177 : (Fx.xis "BadLot" (.own "BadCourse") false).ok K = true := T.c.z.y.fact 1177 (f := .xis "BadLot" (.own "BadCourse") false) rfl
theorem x_1178 : (Fx.xis "BadLog" (.own "BadCourse") false).ok K = true := T.c.z.y.fact 1178 (f := .xis "BadLog" (.own "BadCourse") false) rfl
theorem x_1179 : (Fx.xis "BadLeft" (.own "BadCourse") false).ok K = true := T.c.z.y.fact 1179 (f := .xis "BadLeft" (.own "BadCourse") false) rfl
theorem x_1180 : (Fx.xis "BadJournal" (.own "BadCourse") false).ok K = true := T.c.z.y.fact 1180 (f := .xis "BadJournal" (.own "BadCourse") false) rfl
theorem x_1181 : (Fx.xis "BadIndex" (.own "BadCourse") false).ok K = true := T.c.z.y.fact 1181 (f := .xis "BadIndex" (.own "BadCourse") false) rfl
theorem x_1182 : (Fx.xis "BadHand" (.own "BadCourse") false).ok K = true := T.c.z.y.fact 1182 (f := .xis "BadHand" (.own "BadCourse") false) rfl
theorem x_1183 : (Fx.xis "BadFamily" (.own "BadCourse") false).ok K = true := T.c.z.y.fact 1183 (f := .xis "BadFamily" (.own "BadCourse") false) rfl
theorem x_1184 : (Fx.xis "BadFalls" (.own "BadCourse") false).ok K = true := T.c.z.y.fact 1184 (f := .xis "BadFalls" (.own "BadCourse") false) rfl
theorem x_1185 : (Fx.xis "BadEntries" (.own "BadCourse") false).ok K = true := T.c.z.y.fact 1185 (f := .xis "BadEntries" (.own "BadCourse") false) rfl
theorem x_1186 : (Fx.xis "BadDeed" (.own "BadCourse") false).ok K = true := T.c.z.y.fact 1186 (f := .xis "BadDeed" (.own "BadCourse") false) rfl
theorem x_1187 : (Fx.xis "BadCourse" (.own "BadCourse") true).ok K = true := T.c.z.y.fact 1187 (f := .xis "BadCourse" (.own "BadCourse") true) rfl
theorem x_1188 : (Fx.xis "BadCount" (.own "BadCourse") false).ok K = true := T.c.z.y.fact 1188 (f := .xis "BadCount" (.own "BadCourse") false) rfl
theorem x_1189 : (Fx.xis "BadBook" (.own "BadCourse") false).ok K = true := T.c.z.y.fact 1189 (f := .xis "BadBook" (.own "BadCourse") false) rfl
theorem x_1190 : (Fx.kits (.own "NothingDone") [("NoneType", false), ("bool", false), ("int", false), ("str", false), ("tuple", false), ("list", false), ("dict", false)]).ok K = true := T.c.z.y.fact 1190 (f := .kits (.own "NothingDone") [("NoneType", false), ("bool", false), ("int", false), ("str", false), ("tuple", false), ("list", false), ("dict", false)]) rfl
theorem x_1191 : (Fx.xis "OtherMachines" (.own "NothingDone") false).ok K = true := T.c.z.y.fact 1191 (f := .xis "OtherMachines" (.own "NothingDone") false) rfl
theorem x_1192 : (Fx.xis "NothingDone" (.own "NothingDone") true).ok K = true := T.c.z.y.fact 1192 (f := .xis "NothingDone" (.own "NothingDone") true) rfl
theorem x_1193 : (Fx.xis "NotRight" (.own "NothingDone") false).ok K = true := T.c.z.y.fact 1193 (f := .xis "NotRight" (.own "NothingDone") false) rfl
theorem x_1194 : (Fx.xis "NotNewest" (.own "NothingDone") false).ok K = true := T.c.z.y.fact 1194 (f := .xis "NotNewest" (.own "NothingDone") false) rfl
theorem x_1195 : (Fx.xis "NoTalk" (.own "NothingDone") false).ok K = true := T.c.z.y.fact 1195 (f := .xis "NoTalk" (.own "NothingDone") false) rfl
theorem x_1196 : (Fx.xis "NoLots" (.own "NothingDone") false).ok K = true := T.c.z.y.fact 1196 (f := .xis "NoLots" (.own "NothingDone") false) rfl
theorem x_1197 : (Fx.xis "CutOff" (.own "NothingDone") false).ok K = true := T.c.z.y.fact 1197 (f := .xis "CutOff" (.own "NothingDone") false) rfl
theorem x_1198 : (Fx.xis "BadWeights" (.own "NothingDone") false).ok K = true := T.c.z.y.fact 1198 (f := .xis "BadWeights" (.own "NothingDone") false) rfl
theorem x_1199 : (Fx.xis "BadTold" (.own "NothingDone") false).ok K = true := T.c.z.y.fact 1199 (f := .xis "BadTold" (.own "NothingDone") false) rfl
theorem x_1200 : (Fx.xis "BadText" (.own "NothingDone") false).ok K = true := T.c.z.y.fact 1200 (f := .xis "BadText" (.own "NothingDone") false) rfl
theorem x_1201 : (Fx.xis "BadStanding" (.own "NothingDone") false).ok K = true := T.c.z.y.fact 1201 (f := .xis "BadStanding" (.own "NothingDone") false) rfl
theorem x_1202 : (Fx.xis "BadStages" (.own "NothingDone") false).ok K = true := T.c.z.y.fact 1202 (f := .xis "BadStages" (.own "NothingDone") false) rfl
theorem x_1203 : (Fx.xis "BadSpread" (.own "NothingDone") false).ok K = true := T.c.z.y.fact 1203 (f := .xis "BadSpread" (.own "NothingDone") false) rfl
theorem x_1204 : (Fx.xis "BadRun" (.own "NothingDone") false).ok K = true := T.c.z.y.fact 1204 (f := .xis "BadRun" (.own "NothingDone") false) rfl
theorem x_1205 : (Fx.xis "BadRecord" (.own "NothingDone") false).ok K = true := T.c.z.y.fact 1205 (f := .xis "BadRecord" (.own "NothingDone") false) rfl
theorem x_1206 : (Fx.xis "BadRacks" (.own "NothingDone") false).ok K = true := T.c.z.y.fact 1206 (f := .xis "BadRacks" (.own "NothingDone") false) rfl
theorem x_1207 : (Fx.xis "BadQuota" (.own "NothingDone") false).ok K = true := T.c.z.y.fact 1207 (f := .xis "BadQuota" (.own "NothingDone") false) rfl
theorem x_1208 : (Fx.xis "BadPrices" (.own "NothingDone") false).ok K = true := T.c.z.y.fact 1208 (f := .xis "BadPrices" (.own "NothingDone") false) rfl
theorem x_1209 : (Fx.xis "BadPlace" (.own "NothingDone") false).ok K = true := T.c.z.y.fact 1209 (f := .xis "BadPlace" (.own "NothingDone") false) rfl
theorem x_1210 : (Fx.xis "BadMachine" (.own "NothingDone") false).ok K = true := T.c.z.y.fact 1210 (f := .xis "BadMachine" (.own "NothingDone") false) rfl
theorem x_1211 : (Fx.xis "BadLot" (.own "NothingDone") false).ok K = true := T.c.z.y.fact 1211 (f := .xis "BadLot" (.own "NothingDone") false) rfl
theorem x_1212 : (Fx.xis "BadLog" (.own "NothingDone") false).ok K = true := T.c.z.y.fact 1212 (f := .xis "BadLog" (.own "NothingDone") false) rfl
theorem x_1213 : (Fx.xis "BadLeft" (.own "NothingDone") false).ok K = true := T.c.z.y.fact 1213 (f := .xis "BadLeft" (.own "NothingDone") false) rfl
theorem x_1214 : (Fx.xis "BadJournal" (.own "NothingDone") false).ok K = true := T.c.z.y.fact 1214 (f := .xis "BadJournal" (.own "NothingDone") false) rfl
theorem x_1215 : (Fx.xis "BadIndex" (.own "NothingDone") false).ok K = true := T.c.z.y.fact 1215 (f := .xis "BadIndex" (.own "NothingDone") false) rfl
theorem x_1216 : (Fx.xis "BadHand" (.own "NothingDone") false).ok K = true := T.c.z.y.fact 1216 (f := .xis "BadHand" (.own "NothingDone") false) rfl
theorem x_1217 : (Fx.xis "BadFamily" (.own "NothingDone") false).ok K = true := T.c.z.y.fact 1217 (f := .xis "BadFamily" (.own "NothingDone") false) rfl
theorem x_1218 : (Fx.xis "BadFalls" (.own "NothingDone") false).ok K = true := T.c.z.y.fact 1218 (f := .xis "BadFalls" (.own "NothingDone") false) rfl
theorem x_1219 : (Fx.xis "BadEntries" (.own "NothingDone") false).ok K = true := T.c.z.y.fact 1219 (f := .xis "BadEntries" (.own "NothingDone") false) rfl
theorem x_1220 : (Fx.xis "BadDeed" (.own "NothingDone") false).ok K = true := T.c.z.y.fact 1220 (f := .xis "BadDeed" (.own "NothingDone") false) rfl
theorem x_1221 : (Fx.xis "BadCourse" (.own "NothingDone") false).ok K = true := T.c.z.y.fact 1221 (f := .xis "BadCourse" (.own "NothingDone") false) rfl
theorem x_1222 : (Fx.xis "BadCount" (.own "NothingDone") false).ok K = true := T.c.z.y.fact 1222 (f := .xis "BadCount" (.own "NothingDone") false) rfl
theorem x_1223 : (Fx.xis "BadBook" (.own "NothingDone") false).ok K = true := T.c.z.y.fact 1223 (f := .xis "BadBook" (.own "NothingDone") false) rfl
theorem x_1224 : (Fx.xst "OtherMachines").ok K = true := T.c.z.y.fact 1224 (f := .xst "OtherMachines") rfl
theorem x_1225 : (Fx.xst "NothingDone").ok K = true := T.c.z.y.fact 1225 (f := .xst "NothingDone") rfl
theorem x_1226 : (Fx.xst "NotRight").ok K = true := T.c.z.y.fact 1226 (f := .xst "NotRight") rfl
theorem x_1227 : (Fx.xst "NotNewest").ok K = true := T.c.z.y.fact 1227 (f := .xst "NotNewest") rfl
theorem x_1228 : (Fx.xst "NoLots").ok K = true := T.c.z.y.fact 1228 (f := .xst "NoLots") rfl
theorem x_1229 : (Fx.xst "BadWeights").ok K = true := T.c.z.y.fact 1229 (f := .xst "BadWeights") rfl
theorem x_1230 : (Fx.xst "BadTold").ok K = true := T.c.z.y.fact 1230 (f := .xst "BadTold") rfl
theorem x_1231 : (Fx.xst "BadStanding").ok K = true := T.c.z.y.fact 1231 (f := .xst "BadStanding") rfl
theorem x_1232 : (Fx.xst "BadSpread").ok K = true := T.c.z.y.fact 1232 (f := .xst "BadSpread") rfl
theorem x_1233 : (Fx.xst "BadRun").ok K = true := T.c.z.y.fact 1233 (f := .xst "BadRun") rfl
theorem x_1234 : (Fx.xst "BadRecord").ok K = true := T.c.z.y.fact 1234 (f := .xst "BadRecord") rfl
theorem x_1235 : (Fx.xst "BadRacks").ok K = true := T.c.z.y.fact 1235 (f := .xst "BadRacks") rfl
theorem x_1236 : (Fx.xst "BadPrices").ok K = true := T.c.z.y.fact 1236 (f := .xst "BadPrices") rfl
theorem x_1237 : (Fx.xst "BadLot").ok K = true := T.c.z.y.fact 1237 (f := .xst "BadLot") rfl
theorem x_1238 : (Fx.xst "BadLog").ok K = true := T.c.z.y.fact 1238 (f := .xst "BadLog") rfl
theorem x_1239 : (Fx.xst "BadEntries").ok K = true := T.c.z.y.fact 1239 (f := .xst "BadEntries") rfl
theorem x_1240 : (Fx.xst "BadCourse").ok K = true := T.c.z.y.fact 1240 (f := .xst "BadCourse") rfl
theorem x0_OtherMachines : Exc0 K mg "OtherMachines" := exc0_ok (g_OtherMachines T) (T.c.z.y.d.fact 27 (f := .exc "OtherMachines") rfl)
theorem x0_BadLot : Exc0 K mg "BadLot" := exc0_ok (g_BadLot T) (T.c.z.y.d.fact 29 (f := .exc "BadLot") rfl)
theorem x0_BadWeights : Exc0 K mg "BadWeights" := exc0_ok (g_BadWeights T) (T.c.z.y.d.fact 31 (f := .exc "BadWeights") rfl)
theorem x0_BadRacks : Exc0 K mg "BadRacks" := exc0_ok (g_BadRacks T) (T.c.z.y.d.fact 33 (f := .exc "BadRacks") rfl)
theorem x0_BadLog : Exc0 K mg "BadLog" := exc0_ok (g_BadLog T) (T.c.z.y.d.fact 35 (f := .exc "BadLog") rfl)
theorem x0_BadRecord : Exc0 K mg "BadRecord" := exc0_ok (g_BadRecord T) (T.c.z.y.d.fact 37 (f := .exc "BadRecord") rfl)
theorem x0_BadStanding : Exc0 K mg "BadStanding" := exc0_ok (g_BadStanding T) (T.c.z.y.d.fact 39 (f := .exc "BadStanding") rfl)
theorem x0_BadTold : Exc0 K mg "BadTold" := exc0_ok (g_BadTold T) (T.c.z.y.d.fact 41 (f := .exc "BadTold") rfl)
theorem x0_BadEntries : Exc0 K mg "BadEntries" := exc0_ok (g_BadEntries T) (T.c.z.y.d.fact 43 (f := .exc "BadEntries") rfl)
theorem x0_BadPrices : Exc0 K mg "BadPrices" := exc0_ok (g_BadPrices T) (T.c.z.y.d.fact 45 (f := .exc "BadPrices") rfl)
theorem x0_NotRight : Exc0 K mg "NotRight" := exc0_ok (g_NotRight T) (T.c.z.y.d.fact 47 (f := .exc "NotRight") rfl)
theorem x0_NotNewest : Exc0 K mg "NotNewest" := exc0_ok (g_NotNewest T) (T.c.z.y.d.fact 49 (f := .exc "NotNewest") rfl)
theorem x0_BadRun : Exc0 K mg "BadRun" := exc0_ok (g_BadRun T) (T.c.z.y.d.fact 51 (f := .exc "BadRun") rfl)
theorem x0_BadSpread : Exc0 K mg "BadSpread" := exc0_ok (g_BadSpread T) (T.c.z.y.d.fact 53 (f := .exc "BadSpread") rfl)
theorem x0_NoLots : Exc0 K mg "NoLots" := exc0_ok (g_NoLots T) (T.c.z.y.d.fact 55 (f := .exc "NoLots") rfl)
theorem x0_BadCourse : Exc0 K mg "BadCourse" := exc0_ok (g_BadCourse T) (T.c.z.y.d.fact 57 (f := .exc "BadCourse") rfl)
theorem x0_NothingDone : Exc0 K mg "NothingDone" := exc0_ok (g_NothingDone T) (T.c.z.y.d.fact 59 (f := .exc "NothingDone") rfl)
theorem x1_BadFamily : Exc1 P K mg "BadFamily" "part" := T.c.exc1 0 (d := xd_BadFamily) (g_BadFamily T) xt_BadFamily
theorem x1k_BadFamily : Exc1K P K mg "BadFamily" "part" := SaysW.exc1K T.c 0 (d := xd_BadFamily) (g_BadFamily T) xt_BadFamily xtk_BadFamily
theorem x1_BadCount : Exc1 P K mg "BadCount" "count" := T.c.exc1 1 (d := xd_BadCount) (g_BadCount T) xt_BadCount
theorem x1k_BadCount : Exc1K P K mg "BadCount" "count" := SaysW.exc1K T.c 1 (d := xd_BadCount) (g_BadCount T) xt_BadCount xtk_BadCount
theorem x1_BadQuota : Exc1 P K mg "BadQuota" "quota" := T.c.exc1 2 (d := xd_BadQuota) (g_BadQuota T) xt_BadQuota
theorem x1k_BadQuota : Exc1K P K mg "BadQuota" "quota" := SaysW.exc1K T.c 2 (d := xd_BadQuota) (g_BadQuota T) xt_BadQuota xtk_BadQuota
theorem x1_BadHand : Exc1 P K mg "BadHand" "part" := T.c.exc1 3 (d := xd_BadHand) (g_BadHand T) xt_BadHand
theorem x1k_BadHand : Exc1K P K mg "BadHand" "part" := SaysW.exc1K T.c 3 (d := xd_BadHand) (g_BadHand T) xt_BadHand xtk_BadHand
theorem x1_BadBook : Exc1 P K mg "BadBook" "part" := T.c.exc1 4 (d := xd_BadBook) (g_BadBook T) xt_BadBook
theorem x1k_BadBook : Exc1K P K mg "BadBook" "part" := SaysW.exc1K T.c 4 (d := xd_BadBook) (g_BadBook T) xt_BadBook xtk_BadBook
theorem x1_BadMachine : Exc1 P K mg "BadMachine" "machine" := T.c.exc1 5 (d := xd_BadMachine) (g_BadMachine T) xt_BadMachine
theorem x1k_BadMachine : Exc1K P K mg "BadMachine" "machine" := SaysW.exc1K T.c 5 (d := xd_BadMachine) (g_BadMachine T) xt_BadMachine xtk_BadMachine
theorem x1_BadLeft : Exc1 P K mg "BadLeft" "left" := T.c.exc1 6 (d := xd_BadLeft) (g_BadLeft T) xt_BadLeft
theorem x1k_BadLeft : Exc1K P K mg "BadLeft" "left" := SaysW.exc1K T.c 6 (d := xd_BadLeft) (g_BadLeft T) xt_BadLeft xtk_BadLeft
theorem x1_BadDeed : Exc1 P K mg "BadDeed" "at" := T.c.exc1 7 (d := xd_BadDeed) (g_BadDeed T) xt_BadDeed
theorem x1k_BadDeed : Exc1K P K mg "BadDeed" "at" := SaysW.exc1K T.c 7 (d := xd_BadDeed) (g_BadDeed T) xt_BadDeed xtk_BadDeed
theorem x1_BadFalls : Exc1 P K mg "BadFalls" "falls" := T.c.exc1 8 (d := xd_BadFalls) (g_BadFalls T) xt_BadFalls
theorem x1k_BadFalls : Exc1K P K mg "BadFalls" "falls" := SaysW.exc1K T.c 8 (d := xd_BadFalls) (g_BadFalls T) xt_BadFalls xtk_BadFalls
theorem x1_BadStages : Exc1 P K mg "BadStages" "part" := T.c.exc1 9 (d := xd_BadStages) (g_BadStages T) xt_BadStages
theorem x1k_BadStages : Exc1K P K mg "BadStages" "part" := SaysW.exc1K T.c 9 (d := xd_BadStages) (g_BadStages T) xt_BadStages xtk_BadStages
theorem x1_BadIndex : Exc1 P K mg "BadIndex" "index" := T.c.exc1 10 (d := xd_BadIndex) (g_BadIndex T) xt_BadIndex
theorem x1k_BadIndex : Exc1K P K mg "BadIndex" "index" := SaysW.exc1K T.c 10 (d := xd_BadIndex) (g_BadIndex T) xt_BadIndex xtk_BadIndex
theorem x1_BadPlace : Exc1 P K mg "BadPlace" "place" := T.c.exc1 11 (d := xd_BadPlace) (g_BadPlace T) xt_BadPlace
theorem x1k_BadPlace : Exc1K P K mg "BadPlace" "place" := SaysW.exc1K T.c 11 (d := xd_BadPlace) (g_BadPlace T) xt_BadPlace xtk_BadPlace
theorem x1_NoTalk : Exc1 P K mg "NoTalk" "term" := T.c.exc1 12 (d := xd_NoTalk) (g_NoTalk T) xt_NoTalk
theorem x1k_NoTalk : Exc1K P K mg "NoTalk" "term" := SaysW.exc1K T.c 12 (d := xd_NoTalk) (g_NoTalk T) xt_NoTalk xtk_NoTalk
theorem x1_CutOff : Exc1 P K mg "CutOff" "place" := T.c.exc1 13 (d := xd_CutOff) (g_CutOff T) xt_CutOff
theorem x1k_CutOff : Exc1K P K mg "CutOff" "place" := SaysW.exc1K T.c 13 (d := xd_CutOff) (g_CutOff T) xt_CutOff xtk_CutOff
theorem x1_BadJournal : Exc1 P K mg "BadJournal" "at" := T.c.exc1 14 (d := xd_BadJournal) (g_BadJournal T) xt_BadJournal
theorem x1k_BadJournal : Exc1K P K mg "BadJournal" "at" := SaysW.exc1K T.c 14 (d := xd_BadJournal) (g_BadJournal T) xt_BadJournal xtk_BadJournal
theorem x1_BadText : Exc1 P K mg "BadText" "row" := T.c.exc1 15 (d := xd_BadText) (g_BadText T) xt_BadText
theorem x1k_BadText : Exc1K P K mg "BadText" "row" := SaysW.exc1K T.c 15 (d := xd_BadText) (g_BadText T) xt_BadText xtk_BadText
theorem fd_law_begun : ∃ fd, FunD K "_law_begun" "_law_begun" (defArgs s_law_begun) (defBody s_law_begun) (defScope s_law_begun) [] [] (He.ga K "_law_begun") fd := T.c.z.y.d.def_ 10 (d := d_law_begun) rfl
omit T in
theorem ok_begun0 {f : Addr} {fd : FuncData} (F : FunD K "_law_begun" "_law_begun" (defArgs s_law_begun) (defBody s_law_begun) (defScope s_law_begun) [] [] f fd) (nabs : mg "abs" = none) (nint : mg "int" = none) : FnOk P w K mg base L2.CX0 1 f fd ["_law_script"] (spB K w) := by
  refine F.ok sc_law_begun (fun vs H Q E h => ?_) (fun cdv A outer s H vs Q E hr h => ⟨_, PSs.nox (pss_cons (ps_setLc (i := 1) (own := [("_law_grain", 2)]) (g := gName 2) (by rfl) sc_law_begun.nd rfl rfl (sw_true rfl rfl rfl (by decide +kernel)) (pi_list (pv 0)) (blkOk_by (N := N_law_begun) (sc := defScope s_law_begun) (by decide +kernel))
      (fun _ _ _ _ _ => pg_name (i := 2) sc_law_begun.nd rfl (Or.inl rfl))
      (fun _ _ _ _ _ => pts_one (pt_cmpR op_ge (pe_callB call_abs rfl nabs bb_abs (pa_cons (pv 2) pa_nil)) (pe_op op_pow pe_int pe_int) (nomark _)))
      (fun _ _ _ _ _ => pe_op op_sub (pe_callB call_abs rfl nabs bb_abs (pa_cons (pv 2) pa_nil)) (pe_op op_pow pe_int pe_int)))
    (pss_one (ps_ret (pe_disp (pps_cons pe_str (pv 1) (pps_cons pe_str (pe_lc (own := [("_law_grain", 2)]) (g := gName 2) (tt := tYes) rfl sc_law_begun.nd (pi_list (pv 0)) (blkOk_by (N := N_law_begun) (sc := defScope s_law_begun) (by decide +kernel))
      (fun _ _ _ _ _ => pg_name (i := 2) sc_law_begun.nd rfl (Or.inl rfl)) (fun _ _ _ _ _ => pts_nil)
      (fun _ _ _ _ _ => pe_op op_mod (pe_callTy call_int1 rfl nint bb_int (pa_cons (pe_callB call_abs rfl nabs bb_abs (pa_cons (pv 2) pa_nil)) pa_nil)) pe_int))
      (pps_cons pe_str pe_int (pps_cons pe_str pe_int pps_nil)))) (by rfl) (by rfl) (fun z => by cases z) (by decide))))), ?_⟩)
  · obtain ⟨a, ns, rfl, _⟩ := h
    rfl
  · obtain ⟨a, ns, rfl, hS, hl, hQ⟩ := h
    refine ⟨_, rfl, a, rfl, ⟨_, hS⟩, fun D hD => ?_⟩
    refine lc_ints (K := K) (ns := ns) (fun g => decide (10 ^ 18 ≤ absI g)) (fun g => absI g - 10 ^ 18) walk_list hS hD hl ?_ ?_
    · intro n H' P' acc hacc hlt h1 h2
      refine ⟨rfl, ⟨_, rfl, n, rfl, 10, 18, rfl, rfl, ⟨by decide, by decide, by decide⟩, _, _, rfl, rfl, _, rfl, ?_⟩⟩
      by_cases c : (10 : Int) ^ Int.toNat 18 ≤ (if n < 0 then -n else n)
      · rw [decide_eq_true c]
        exact iteT ⟨_, rfl, n, rfl, 10, 18, rfl, rfl, ⟨by decide, by decide, by decide⟩, _, _, rfl, rfl, acc, hacc, hlt, h1 (decide_eq_true c)⟩
      · rw [decide_eq_false c]
        exact iteF (h2 (decide_eq_false c))
    · intro p hp
      have hpD : p ≠ D := fun z => by rw [z, upd_same] at hp; cases hp
      have hpH : H p = none := by rw [upd_ne hpD] at hp; exact hp
      have hS2 : SqL K (upd (upd H D (.lst ((wideOf ns).map V.int))) p (.dK [])) a (ns.map V.int) := L2.Same.seq (fun b o e => by rw [upd_ne (ne_of_none e hpH), upd_ne (ne_of_none e hD)]; exact e) hS
      refine ⟨_, rfl, _, rfl, a, rfl, ⟨_, hS2⟩, fun D2 hD2 => ?_⟩
      refine lc_ints (K := K) (ns := ns) (fun _ => true) (fun g => absI g % 2147483629) walk_list hS2 hD2 hl ?_ ?_
      · intro n H' P' acc hacc hlt h1 h2
        exact ⟨rfl, _, rfl, n, rfl, .inl ⟨_, rfl, _, _, rfl, rfl, (by decide : (0:Int) < 2147483629), acc, hacc, hlt, h1 rfl⟩⟩
      · have hD2p : D2 ≠ p := fun z => by rw [z, upd_same] at hD2; cases hD2
        have hD2D : D2 ≠ D := fun z => by rw [z, upd_ne hpD.symm, upd_same] at hD2; cases hD2
        have hD2H : H D2 = none := by rw [upd_ne hD2p, upd_ne hD2D] at hD2; exact hD2
        refine ⟨by rw [upd_ne hD2p.symm, upd_same], [(Sum.inr "wide", .ref D), (Sum.inr "cells", .ref D2), (Sum.inr "rest", .int 0), (Sum.inr "turn", .int 0)], rfl, (by decide : (4:Nat) ≤ 15), ?_⟩
        refine hQ ⟨p, D, D2, p, p, []⟩ _ ⟨fun b o e => ?_, fun b e => ?_, fun b o e => ?_, hpH, hD, hD2H, ?_, ?_, ?_, hD2D.symm⟩
        · rw [upd_ne (ne_of_none e hpH), upd_ne (ne_of_none e hD2H), upd_ne (ne_of_none e hpH), upd_ne (ne_of_none e hD)]; exact e
        · have h1 : b ≠ p := fun z => by rw [z, upd_same] at e; cases e
          rw [upd_ne h1] at e
          have h2 : b ≠ D2 := fun z => by rw [z, upd_same] at e; cases e
          rw [upd_ne h2, upd_ne h1] at e
          have h3 : b ≠ D := fun z => by rw [z, upd_same] at e; cases e
          rw [upd_ne h3] at e
          exact e
        · by_cases h1 : b = p
          · subst h1
            rw [upd_same] at e
            cases e
            exact .inr ⟨fun _ z => (by cases z), fun _ _ z => (by unfold LamX.CodeO at z; cases z)⟩
          rw [upd_ne h1] at e
          by_cases h2 : b = D2
          · subst h2
            rw [upd_same] at e
            cases e
            exact .inr ⟨fun _ z => (by cases z), fun _ _ z => (by unfold LamX.CodeO at z; cases z)⟩
          rw [upd_ne h2, upd_ne h1] at e
          by_cases h3 : b = D
          · subst h3
            rw [upd_same] at e
            cases e
            exact .inr ⟨fun _ z => (by cases z), fun _ _ z => (by unfold LamX.CodeO at z; cases z)⟩
          rw [upd_ne h3] at e
          exact .inl e
        · show upd _ p _ p = _
          rw [upd_same]; rfl
        · show upd _ p _ D = _
          rw [upd_ne hpD.symm, upd_ne hD2D.symm, upd_ne hpD.symm, upd_same]; rfl
        · show upd _ p _ D2 = _
          rw [upd_ne hD2p, upd_same]
          rw [List.filter_eq_self.mpr fun _ _ => rfl]
          rfl
theorem ok_begun {f : Addr} {fd : FuncData} (F : FunD K "_law_begun" "_law_begun" (defArgs s_law_begun) (defBody s_law_begun) (defScope s_law_begun) [] [] f fd) : FnOk P w K mg base L2.CX0 1 f fd ["_law_script"] (spB K w) := ok_begun0 F (n_abs T) (n_int T)
theorem fd_law_mixed : ∃ fd, FunD K "_law_mixed" "_law_mixed" (defArgs s_law_mixed) (defBody s_law_mixed) (defScope s_law_mixed) [] [] (He.ga K "_law_mixed") fd := T.c.z.y.d.def_ 0 (d := d_law_mixed) rfl
theorem f_law_mixed : DFn P w K mg base "_law_mixed" 1 1 m_law_mixed := by
  obtain ⟨fd, F⟩ := fd_law_mixed T
  refine def_of (g__law_mixed T) F.kp rfl (F.bindsN (ps := ["_law_draw"]) fun _ _ _ _ _ _ us hl => match us, hl with | [_], _ => by kernel_rfl) ?_
  have R := @dfn_of P w K mg base _ _ s_law_mixed _ fd N_law_mixed _ 0 _ b_law_mixed _ _ F sc_law_mixed rfl (fun cdv A outer s H E dl hr tk hp => by
    exact (dss_cons (ds_par 1 2 rfl sc_law_mixed.nd (des_fz (de_bin od_add (de_turn 0 (hu64 hr)) de_int)) (des_fz de_int)) (dss_cons (ds_turn 0 (hu64 hr) (de_var 1)) (dss_cons (ds_for hp rfl (di_seq (de_lst (da_cons de_int (da_cons de_int (da_cons de_int (da_cons de_int da_nil)))))) (dg_name 3 sc_law_mixed.nd) (dss_cons (ds_set 4 sc_law_mixed.nd (de_bin od_add (de_bin od_mul de_int (de_var 1)) (de_bin od_fdiv (de_var 3) de_int))) (dss_cons (ds_forC 0 (hu64 hr) hp rfl (dg_name 5 sc_law_mixed.nd) (dss_one (ds_set 4 sc_law_mixed.nd (de_bin od_mod (de_callTy cd_int rfl (n_int T) bb_int (da_cons (de_bin od_add (de_bin od_add (de_bin od_mul (de_var 4) de_int) (de_var 5)) (de_var 1)) da_nil)) (de_var 3)))) (still_asg fun G => by repeat (first | exact stl_gv | exact stl_ret | exact stl_sa0 | apply stl_g2 | apply stl_gC | apply stl_saC))) (dss_one (ds_set 2 sc_law_mixed.nd (de_bin od_add (de_bin od_mul (de_var 2) de_int) (de_bin od_mod (de_callTy cd_int rfl (n_int T) bb_int (da_cons (de_bin od_pow (de_var 4) de_int) da_nil)) (de_var 3)))))))) (dss_one (ds_ret (de_var 2)))))))
  exact R
theorem fd_law_take : ∃ fd, FunD K "_law_take" "_law_take" (defArgs s_law_take) (defBody s_law_take) (defScope s_law_take) [] [] (He.ga K "_law_take") fd := T.c.z.y.d.def_ 1 (d := d_law_take) rfl
theorem f_law_take : DFn P w K mg base "_law_take" 2 2 m_law_take := by
  obtain ⟨fd, F⟩ := fd_law_take T
  refine def_of (g__law_take T) F.kp rfl (F.bindsN (ps := ["_law_draw", "_law_size"]) fun _ _ _ _ _ _ us hl => match us, hl with | [_, _], _ => by kernel_rfl) ?_
  have R := @dfn_of P w K mg base _ _ s_law_take _ fd N_law_take _ 1 _ b_law_take _ _ F sc_law_take rfl (fun cdv A outer s H E dl hr tk hp => by
    exact (dss_cons (ds_if (dt_cmp (od_eq (hu64 hr)) (de_rest 0 (hu64 hr)) de_int (by rfl)) (dss_one (ds_rest 0 (hu64 hr) (de_ifExp (dt_wide 0 (hu64 hr)) (de_popW 0 (hu64 hr)) (de_call (f_law_mixed T) (hr.mono (by decide)) tk (da_cons (de_var 0) da_nil))))) dss_nil) (dss_cons (ds_set 2 sc_law_take.nd (de_bin od_mod (de_callTy cd_int rfl (n_int T) bb_int (da_cons (de_rest 0 (hu64 hr)) da_nil)) (de_var 1))) (dss_cons (ds_rest 0 (hu64 hr) (de_bin od_fdiv (de_rest 0 (hu64 hr)) (de_var 1))) (dss_one (ds_ret (de_var 2)))))))
  exact R
theorem fd_law_pick : ∃ fd, FunD K "_law_pick" "_law_pick" (defArgs s_law_pick) (defBody s_law_pick) (defScope s_law_pick) [] [] (He.ga K "_law_pick") fd := T.c.z.y.d.def_ 2 (d := d_law_pick) rfl
theorem f_law_pick : DFn P w K mg base "_law_pick" 3 2 m_law_pick := by
  obtain ⟨fd, F⟩ := fd_law_pick T
  refine def_of (g__law_pick T) F.kp rfl (F.bindsN (ps := ["_law_draw", "_law_some"]) fun _ _ _ _ _ _ us hl => match us, hl with | [_, _], _ => by kernel_rfl) ?_
  have R := @dfn_of P w K mg base _ _ s_law_pick _ fd N_law_pick _ 2 _ b_law_pick _ _ F sc_law_pick rfl (fun cdv A outer s H E dl hr tk hp => by
    exact (dss_one (ds_ret (de_sub (de_var 1) (de_call (f_law_take T) (hr.mono (by decide)) tk (da_cons (de_var 0) (da_cons (de_callB cd_len rfl (n_len T) bb_len (da_cons (de_var 1) da_nil)) da_nil)))))))
  exact R
theorem fd_law_with : ∃ fd, FunD K "_law_with" "_law_with" (defArgs s_law_with) (defBody s_law_with) (defScope s_law_with) [] [] (He.ga K "_law_with") fd := T.c.z.y.d.def_ 3 (d := d_law_with) rfl
theorem f_law_with : DFn P w K mg base "_law_with" 2 1 m_law_with := by
  obtain ⟨fd, F⟩ := fd_law_with T
  refine def_of (g__law_with T) F.kp rfl (F.bindsN (ps := ["_law_item"]) fun _ _ _ _ _ _ us hl => match us, hl with | [_], _ => by kernel_rfl) ?_
  have R := @dfn_of P w K mg base _ _ s_law_with _ fd N_law_with _ 1 _ b_law_with _ _ F sc_law_with rfl (fun cdv A outer s H E dl hr tk hp => by
    exact (dss_cons (ds_set 1 sc_law_with.nd (de_lst (da_cons (de_mkX (k := 0) (x1_BadFamily T) (hr.mono (by decide)) (de_var 0)) (da_cons (de_mkX (k := 0) (x1_BadCount T) (hr.mono (by decide)) (de_var 0)) (da_cons (de_mkX (k := 0) (x1_BadQuota T) (hr.mono (by decide)) (de_var 0)) (da_cons (de_mkX (k := 0) (x1_BadHand T) (hr.mono (by decide)) (de_var 0)) (da_cons (de_mkX (k := 0) (x1_BadBook T) (hr.mono (by decide)) (de_var 0)) (da_cons (de_mkX (k := 0) (x1_BadMachine T) (hr.mono (by decide)) (de_var 0)) da_nil)))))))) (dss_cons (ds_set 1 sc_law_with.nd (de_bin od_add (de_var 1) (de_lst (da_cons (de_mkX (k := 0) (x1_BadLeft T) (hr.mono (by decide)) (de_var 0)) (da_cons (de_mkX (k := 0) (x1_BadDeed T) (hr.mono (by decide)) (de_var 0)) (da_cons (de_mkX (k := 0) (x1_BadFalls T) (hr.mono (by decide)) (de_var 0)) (da_cons (de_mkX (k := 0) (x1_BadStages T) (hr.mono (by decide)) (de_var 0)) (da_cons (de_mkX (k := 0) (x1_BadIndex T) (hr.mono (by decide)) (de_var 0)) (da_cons (de_mkX (k := 0) (x1_BadPlace T) (hr.mono (by decide)) (de_var 0)) da_nil))))))))) (dss_one (ds_ret (de_bin od_add (de_var 1) (de_lst (da_cons (de_mkX (k := 0) (x1_NoTalk T) (hr.mono (by decide)) (de_var 0)) (da_cons (de_mkX (k := 0) (x1_CutOff T) (hr.mono (by decide)) (de_var 0)) (da_cons (de_mkX (k := 0) (x1_BadJournal T) (hr.mono (by decide)) (de_var 0)) (da_cons (de_mkX (k := 0) (x1_BadText T) (hr.mono (by decide)) (de_var 0)) da_nil)))))))))))
  exact R
theorem fd_law_without : ∃ fd, FunD K "_law_without" "_law_without" (defArgs s_law_without) (defBody s_law_without) (defScope s_law_without) [] [] (He.ga K "_law_without") fd := T.c.z.y.d.def_ 4 (d := d_law_without) rfl
theorem f_law_without : DFn P w K mg base "_law_without" 1 0 m_law_without := by
  obtain ⟨fd, F⟩ := fd_law_without T
  refine def_of (g__law_without T) F.kp rfl (F.bindsN (ps := []) fun _ _ _ _ _ _ us hl => match us, hl with | [], _ => by kernel_rfl) ?_
  have R := @dfn_of P w K mg base _ _ s_law_without _ fd N_law_without _ 0 _ b_law_without _ _ F sc_law_without rfl (fun cdv A outer s H E dl hr tk hp => by
    exact (dss_cons (ds_set 0 sc_law_without.nd de_str) (dss_cons (ds_set 1 sc_law_without.nd (de_lst (da_cons (de_mkM (x0_OtherMachines T) (de_var 0)) (da_cons (de_mkM (x0_BadLot T) (de_var 0)) (da_cons (de_mkM (x0_BadWeights T) (de_var 0)) (da_cons (de_mkM (x0_BadRacks T) (de_var 0)) (da_cons (de_mkM (x0_BadLog T) (de_var 0)) (da_cons (de_mkM (x0_BadRecord T) (de_var 0)) da_nil)))))))) (dss_cons (ds_set 1 sc_law_without.nd (de_bin od_add (de_var 1) (de_lst (da_cons (de_mkM (x0_BadStanding T) (de_var 0)) (da_cons (de_mkM (x0_BadTold T) (de_var 0)) (da_cons (de_mkM (x0_BadEntries T) (de_var 0)) (da_cons (de_mkM (x0_BadPrices T) (de_var 0)) (da_cons (de_mkM (x0_NotRight T) (de_var 0)) da_nil)))))))) (dss_one (ds_ret (de_bin od_add (de_var 1) (de_lst (da_cons (de_mkM (x0_NotNewest T) (de_var 0)) (da_cons (de_mkM (x0_BadRun T) (de_var 0)) (da_cons (de_mkM (x0_BadSpread T) (de_var 0)) (da_cons (de_mkM (x0_NoLots T) (de_var 0)) (da_cons (de_mkM (x0_BadCourse T) (de_var 0)) (da_cons (de_mkM (x0_NothingDone T) (de_var 0)) da_nil))))))))))))))
  exact R
theorem fd_law_told : ∃ fd, FunD K "_law_told" "_law_told" (defArgs s_law_told) (defBody s_law_told) (defScope s_law_told) [] [] (He.ga K "_law_told") fd := T.c.z.y.d.def_ 5 (d := d_law_told) rfl
theorem f_law_told : DFn P w K mg base "_law_told" 1 1 m_law_told := by
  obtain ⟨fd, F⟩ := fd_law_told T
  refine def_of (g__law_told T) F.kp rfl (F.bindsN (ps := ["_law_some"]) fun _ _ _ _ _ _ us hl => match us, hl with | [_], _ => by kernel_rfl) ?_
  have R := @dfn_of P w K mg base _ _ s_law_told _ fd N_law_told _ 0 _ b_law_told _ _ F sc_law_told rfl (fun cdv A outer s H E dl hr tk hp => by
    exact (dss_cons (ds_set 1 sc_law_told.nd (de_lst (da_cons (de_fldX (one_flx (fldX_ok (g_BadBook T) (x_3 T) (T.c.z.y.d.fact 64 (f := .noat "BadBook" "part") rfl)) (one_flx (fldX_ok (g_BadFamily T) (x_2 T) (T.c.z.y.d.fact 63 (f := .noat "BadFamily" "part") rfl)) (one_flx (fldX_ok (g_BadHand T) (x_1 T) (T.c.z.y.d.fact 62 (f := .noat "BadHand" "part") rfl)) (one_flx (fldX_ok (g_BadStages T) (x_0 T) (T.c.z.y.d.fact 61 (f := .noat "BadStages" "part") rfl)) no_flx)))) (de_sub (de_var 0) de_int)) (da_cons (de_fldX (one_flx (fldX_ok (g_BadCount T) (x_4 T) (T.c.z.y.d.fact 65 (f := .noat "BadCount" "count") rfl)) no_flx) (de_sub (de_var 0) de_int)) (da_cons (de_fldX (one_flx (fldX_ok (g_BadQuota T) (x_5 T) (T.c.z.y.d.fact 66 (f := .noat "BadQuota" "quota") rfl)) no_flx) (de_sub (de_var 0) de_int)) (da_cons (de_fldX (one_flx (fldX_ok (g_BadBook T) (x_3 T) (T.c.z.y.d.fact 64 (f := .noat "BadBook" "part") rfl)) (one_flx (fldX_ok (g_BadFamily T) (x_2 T) (T.c.z.y.d.fact 63 (f := .noat "BadFamily" "part") rfl)) (one_flx (fldX_ok (g_BadHand T) (x_1 T) (T.c.z.y.d.fact 62 (f := .noat "BadHand" "part") rfl)) (one_flx (fldX_ok (g_BadStages T) (x_0 T) (T.c.z.y.d.fact 61 (f := .noat "BadStages" "part") rfl)) no_flx)))) (de_sub (de_var 0) de_int)) (da_cons (de_fldX (one_flx (fldX_ok (g_BadBook T) (x_3 T) (T.c.z.y.d.fact 64 (f := .noat "BadBook" "part") rfl)) (one_flx (fldX_ok (g_BadFamily T) (x_2 T) (T.c.z.y.d.fact 63 (f := .noat "BadFamily" "part") rfl)) (one_flx (fldX_ok (g_BadHand T) (x_1 T) (T.c.z.y.d.fact 62 (f := .noat "BadHand" "part") rfl)) (one_flx (fldX_ok (g_BadStages T) (x_0 T) (T.c.z.y.d.fact 61 (f := .noat "BadStages" "part") rfl)) no_flx)))) (de_sub (de_var 0) de_int)) (da_cons (de_fldX (one_flx (fldX_ok (g_BadMachine T) (x_6 T) (T.c.z.y.d.fact 67 (f := .noat "BadMachine" "machine") rfl)) no_flx) (de_sub (de_var 0) de_int)) (da_cons (de_fldX (one_flx (fldX_ok (g_BadLeft T) (x_7 T) (T.c.z.y.d.fact 68 (f := .noat "BadLeft" "left") rfl)) no_flx) (de_sub (de_var 0) de_int)) da_nil))))))))) (dss_cons (ds_set 1 sc_law_told.nd (de_bin od_add (de_var 1) (de_lst (da_cons (de_fldX (one_flx (fldX_ok (g_BadDeed T) (x_9 T) (T.c.z.y.d.fact 70 (f := .noat "BadDeed" "at") rfl)) (one_flx (fldX_ok (g_BadJournal T) (x_8 T) (T.c.z.y.d.fact 69 (f := .noat "BadJournal" "at") rfl)) no_flx)) (de_sub (de_var 0) de_int)) (da_cons (de_fldX (one_flx (fldX_ok (g_BadFalls T) (x_10 T) (T.c.z.y.d.fact 71 (f := .noat "BadFalls" "falls") rfl)) no_flx) (de_sub (de_var 0) de_int)) (da_cons (de_fldX (one_flx (fldX_ok (g_BadBook T) (x_3 T) (T.c.z.y.d.fact 64 (f := .noat "BadBook" "part") rfl)) (one_flx (fldX_ok (g_BadFamily T) (x_2 T) (T.c.z.y.d.fact 63 (f := .noat "BadFamily" "part") rfl)) (one_flx (fldX_ok (g_BadHand T) (x_1 T) (T.c.z.y.d.fact 62 (f := .noat "BadHand" "part") rfl)) (one_flx (fldX_ok (g_BadStages T) (x_0 T) (T.c.z.y.d.fact 61 (f := .noat "BadStages" "part") rfl)) no_flx)))) (de_sub (de_var 0) de_int)) (da_cons (de_fldX (one_flx (fldX_ok (g_BadIndex T) (x_11 T) (T.c.z.y.d.fact 72 (f := .noat "BadIndex" "index") rfl)) no_flx) (de_sub (de_var 0) de_int)) (da_cons (de_fldX (one_flx (fldX_ok (g_BadPlace T) (x_13 T) (T.c.z.y.d.fact 74 (f := .noat "BadPlace" "place") rfl)) (one_flx (fldX_ok (g_CutOff T) (x_12 T) (T.c.z.y.d.fact 73 (f := .noat "CutOff" "place") rfl)) no_flx)) (de_sub (de_var 0) de_int)) (da_cons (de_fldX (one_flx (fldX_ok (g_NoTalk T) (x_14 T) (T.c.z.y.d.fact 75 (f := .noat "NoTalk" "term") rfl)) no_flx) (de_sub (de_var 0) de_int)) da_nil))))))))) (dss_one (ds_ret (de_bin od_add (de_var 1) (de_lst (da_cons (de_fldX (one_flx (fldX_ok (g_BadPlace T) (x_13 T) (T.c.z.y.d.fact 74 (f := .noat "BadPlace" "place") rfl)) (one_flx (fldX_ok (g_CutOff T) (x_12 T) (T.c.z.y.d.fact 73 (f := .noat "CutOff" "place") rfl)) no_flx)) (de_sub (de_var 0) de_int)) (da_cons (de_fldX (one_flx (fldX_ok (g_BadDeed T) (x_9 T) (T.c.z.y.d.fact 70 (f := .noat "BadDeed" "at") rfl)) (one_flx (fldX_ok (g_BadJournal T) (x_8 T) (T.c.z.y.d.fact 69 (f := .noat "BadJournal" "at") rfl)) no_flx)) (de_sub (de_var 0) de_int)) (da_cons (de_fldX (one_flx (fldX_ok (g_BadText T) (x_15 T) (T.c.z.y.d.fact 76 (f := .noat "BadText" "row") rfl)) no_flx) (de_sub (de_var 0) de_int)) da_nil))))))))))
  exact R
theorem fd_law_by_name : ∃ fd, FunD K "_law_by_name" "_law_by_name" (defArgs s_law_by_name) (defBody s_law_by_name) (defScope s_law_by_name) [] [] (He.ga K "_law_by_name") fd := T.c.z.y.d.def_ 6 (d := d_law_by_name) rfl
theorem f_law_by_name : DFn P w K mg base "_law_by_name" 2 1 m_law_by_name := by
  obtain ⟨fd, F⟩ := fd_law_by_name T
  refine def_of (g__law_by_name T) F.kp rfl (F.bindsN (ps := ["_law_item"]) fun _ _ _ _ _ _ us hl => match us, hl with | [_], _ => by kernel_rfl) ?_
  have R := @dfn_of P w K mg base _ _ s_law_by_name _ fd N_law_by_name _ 1 _ b_law_by_name _ _ F sc_law_by_name rfl (fun cdv A outer s H E dl hr tk hp => by
    exact (dss_cons (ds_set 1 sc_law_by_name.nd (de_lst (da_cons (de_mkXK (k := 0) (x1k_BadFamily T) (hr.mono (by decide)) (dk_cons (de_var 0) dk_nil)) (da_cons (de_mkXK (k := 0) (x1k_BadCount T) (hr.mono (by decide)) (dk_cons (de_var 0) dk_nil)) (da_cons (de_mkXK (k := 0) (x1k_BadQuota T) (hr.mono (by decide)) (dk_cons (de_var 0) dk_nil)) (da_cons (de_mkXK (k := 0) (x1k_BadHand T) (hr.mono (by decide)) (dk_cons (de_var 0) dk_nil)) (da_cons (de_mkXK (k := 0) (x1k_BadBook T) (hr.mono (by decide)) (dk_cons (de_var 0) dk_nil)) da_nil))))))) (dss_cons (ds_set 1 sc_law_by_name.nd (de_bin od_add (de_var 1) (de_lst (da_cons (de_mkXK (k := 0) (x1k_BadMachine T) (hr.mono (by decide)) (dk_cons (de_var 0) dk_nil)) (da_cons (de_mkXK (k := 0) (x1k_BadLeft T) (hr.mono (by decide)) (dk_cons (de_var 0) dk_nil)) (da_cons (de_mkXK (k := 0) (x1k_BadDeed T) (hr.mono (by decide)) (dk_cons (de_var 0) dk_nil)) (da_cons (de_mkXK (k := 0) (x1k_BadFalls T) (hr.mono (by decide)) (dk_cons (de_var 0) dk_nil)) da_nil))))))) (dss_cons (ds_set 1 sc_law_by_name.nd (de_bin od_add (de_var 1) (de_lst (da_cons (de_mkXK (k := 0) (x1k_BadStages T) (hr.mono (by decide)) (dk_cons (de_var 0) dk_nil)) (da_cons (de_mkXK (k := 0) (x1k_BadIndex T) (hr.mono (by decide)) (dk_cons (de_var 0) dk_nil)) (da_cons (de_mkXK (k := 0) (x1k_BadPlace T) (hr.mono (by decide)) (dk_cons (de_var 0) dk_nil)) (da_cons (de_mkXK (k := 0) (x1k_NoTalk T) (hr.mono (by decide)) (dk_cons (de_var 0) dk_nil)) da_nil))))))) (dss_one (ds_ret (de_bin od_add (de_var 1) (de_lst (da_cons (de_mkXK (k := 0) (x1k_CutOff T) (hr.mono (by decide)) (dk_cons (de_var 0) dk_nil)) (da_cons (de_mkXK (k := 0) (x1k_BadJournal T) (hr.mono (by decide)) (dk_cons (de_var 0) dk_nil)) (da_cons (de_mkXK (k := 0) (x1k_BadText T) (hr.mono (by decide)) (dk_cons (de_var 0) dk_nil)) da_nil)))))))))))
  exact R
theorem fd_law_first_marks : ∃ fd, FunD K "_law_first_marks" "_law_first_marks" (defArgs s_law_first_marks) (defBody s_law_first_marks) (defScope s_law_first_marks) [] [] (He.ga K "_law_first_marks") fd := T.c.z.y.d.def_ 7 (d := d_law_first_marks) rfl
theorem f_law_first_marks : DFn P w K mg base "_law_first_marks" 1 1 m_law_first_marks := by
  obtain ⟨fd, F⟩ := fd_law_first_marks T
  refine def_of (g__law_first_marks T) F.kp rfl (F.bindsN (ps := ["_law_error"]) fun _ _ _ _ _ _ us hl => match us, hl with | [_], _ => by kernel_rfl) ?_
  have R := @dfn_of P w K mg base _ _ s_law_first_marks _ fd N_law_first_marks _ 0 _ b_law_first_marks _ _ F sc_law_first_marks rfl (fun cdv A outer s H E dl hr tk hp => by
    exact (dss_cons (ds_set 1 sc_law_first_marks.nd (de_lst (da_cons (de_isiY rfl (n_isinstance T) (pe_glob (v := .ref (He.ga K "BadFamily")) rfl (g_BadFamily T) rfl) (.own _) (one_clx (xis_ok (g_BadBook T) (x_3 T) (x_135 T)) (one_clx (xis_ok (g_BadCount T) (x_4 T) (x_134 T)) (one_clx (xis_ok (g_BadCourse T) (x_65 T) (x_133 T)) (one_clx (xis_ok (g_BadDeed T) (x_9 T) (x_132 T)) (one_clx (xis_ok (g_BadEntries T) (x_62 T) (x_131 T)) (one_clx (xis_ok (g_BadFalls T) (x_10 T) (x_130 T)) (one_clx (xis_ok (g_BadFamily T) (x_2 T) (x_129 T)) (one_clx (xis_ok (g_BadHand T) (x_1 T) (x_128 T)) (one_clx (xis_ok (g_BadIndex T) (x_11 T) (x_127 T)) (one_clx (xis_ok (g_BadJournal T) (x_8 T) (x_126 T)) (one_clx (xis_ok (g_BadLeft T) (x_7 T) (x_125 T)) (one_clx (xis_ok (g_BadLog T) (x_54 T) (x_124 T)) (one_clx (xis_ok (g_BadLot T) (x_52 T) (x_123 T)) (one_clx (xis_ok (g_BadMachine T) (x_6 T) (x_122 T)) (one_clx (xis_ok (g_BadPlace T) (x_13 T) (x_121 T)) (one_clx (xis_ok (g_BadPrices T) (x_48 T) (x_120 T)) (one_clx (xis_ok (g_BadQuota T) (x_5 T) (x_119 T)) (one_clx (xis_ok (g_BadRacks T) (x_45 T) (x_118 T)) (one_clx (xis_ok (g_BadRecord T) (x_43 T) (x_117 T)) (one_clx (xis_ok (g_BadRun T) (x_41 T) (x_116 T)) (one_clx (xis_ok (g_BadSpread T) (x_39 T) (x_115 T)) (one_clx (xis_ok (g_BadStages T) (x_0 T) (x_114 T)) (one_clx (xis_ok (g_BadStanding T) (x_36 T) (x_113 T)) (one_clx (xis_ok (g_BadText T) (x_15 T) (x_112 T)) (one_clx (xis_ok (g_BadTold T) (x_33 T) (x_111 T)) (one_clx (xis_ok (g_BadWeights T) (x_31 T) (x_110 T)) (one_clx (xis_ok (g_CutOff T) (x_12 T) (x_109 T)) (one_clx (xis_ok (g_NoLots T) (x_28 T) (x_108 T)) (one_clx (xis_ok (g_NoTalk T) (x_14 T) (x_107 T)) (one_clx (xis_ok (g_NotNewest T) (x_25 T) (x_106 T)) (one_clx (xis_ok (g_NotRight T) (x_23 T) (x_105 T)) (one_clx (xis_ok (g_NothingDone T) (x_21 T) (x_104 T)) (one_clx (xis_ok (g_OtherMachines T) (x_19 T) (x_103 T)) no_clx))))))))))))))))))))))))))))))))) no_cls (kits_ok (x_102 T)) (de_var 0)) (da_cons (de_isiY rfl (n_isinstance T) (pe_glob (v := .ref (He.ga K "BadCount")) rfl (g_BadCount T) rfl) (.own _) (one_clx (xis_ok (g_BadBook T) (x_3 T) (x_169 T)) (one_clx (xis_ok (g_BadCount T) (x_4 T) (x_168 T)) (one_clx (xis_ok (g_BadCourse T) (x_65 T) (x_167 T)) (one_clx (xis_ok (g_BadDeed T) (x_9 T) (x_166 T)) (one_clx (xis_ok (g_BadEntries T) (x_62 T) (x_165 T)) (one_clx (xis_ok (g_BadFalls T) (x_10 T) (x_164 T)) (one_clx (xis_ok (g_BadFamily T) (x_2 T) (x_163 T)) (one_clx (xis_ok (g_BadHand T) (x_1 T) (x_162 T)) (one_clx (xis_ok (g_BadIndex T) (x_11 T) (x_161 T)) (one_clx (xis_ok (g_BadJournal T) (x_8 T) (x_160 T)) (one_clx (xis_ok (g_BadLeft T) (x_7 T) (x_159 T)) (one_clx (xis_ok (g_BadLog T) (x_54 T) (x_158 T)) (one_clx (xis_ok (g_BadLot T) (x_52 T) (x_157 T)) (one_clx (xis_ok (g_BadMachine T) (x_6 T) (x_156 T)) (one_clx (xis_ok (g_BadPlace T) (x_13 T) (x_155 T)) (one_clx (xis_ok (g_BadPrices T) (x_48 T) (x_154 T)) (one_clx (xis_ok (g_BadQuota T) (x_5 T) (x_153 T)) (one_clx (xis_ok (g_BadRacks T) (x_45 T) (x_152 T)) (one_clx (xis_ok (g_BadRecord T) (x_43 T) (x_151 T)) (one_clx (xis_ok (g_BadRun T) (x_41 T) (x_150 T)) (one_clx (xis_ok (g_BadSpread T) (x_39 T) (x_149 T)) (one_clx (xis_ok (g_BadStages T) (x_0 T) (x_148 T)) (one_clx (xis_ok (g_BadStanding T) (x_36 T) (x_147 T)) (one_clx (xis_ok (g_BadText T) (x_15 T) (x_146 T)) (one_clx (xis_ok (g_BadTold T) (x_33 T) (x_145 T)) (one_clx (xis_ok (g_BadWeights T) (x_31 T) (x_144 T)) (one_clx (xis_ok (g_CutOff T) (x_12 T) (x_143 T)) (one_clx (xis_ok (g_NoLots T) (x_28 T) (x_142 T)) (one_clx (xis_ok (g_NoTalk T) (x_14 T) (x_141 T)) (one_clx (xis_ok (g_NotNewest T) (x_25 T) (x_140 T)) (one_clx (xis_ok (g_NotRight T) (x_23 T) (x_139 T)) (one_clx (xis_ok (g_NothingDone T) (x_21 T) (x_138 T)) (one_clx (xis_ok (g_OtherMachines T) (x_19 T) (x_137 T)) no_clx))))))))))))))))))))))))))))))))) no_cls (kits_ok (x_136 T)) (de_var 0)) (da_cons (de_isiY rfl (n_isinstance T) (pe_glob (v := .ref (He.ga K "BadQuota")) rfl (g_BadQuota T) rfl) (.own _) (one_clx (xis_ok (g_BadBook T) (x_3 T) (x_203 T)) (one_clx (xis_ok (g_BadCount T) (x_4 T) (x_202 T)) (one_clx (xis_ok (g_BadCourse T) (x_65 T) (x_201 T)) (one_clx (xis_ok (g_BadDeed T) (x_9 T) (x_200 T)) (one_clx (xis_ok (g_BadEntries T) (x_62 T) (x_199 T)) (one_clx (xis_ok (g_BadFalls T) (x_10 T) (x_198 T)) (one_clx (xis_ok (g_BadFamily T) (x_2 T) (x_197 T)) (one_clx (xis_ok (g_BadHand T) (x_1 T) (x_196 T)) (one_clx (xis_ok (g_BadIndex T) (x_11 T) (x_195 T)) (one_clx (xis_ok (g_BadJournal T) (x_8 T) (x_194 T)) (one_clx (xis_ok (g_BadLeft T) (x_7 T) (x_193 T)) (one_clx (xis_ok (g_BadLog T) (x_54 T) (x_192 T)) (one_clx (xis_ok (g_BadLot T) (x_52 T) (x_191 T)) (one_clx (xis_ok (g_BadMachine T) (x_6 T) (x_190 T)) (one_clx (xis_ok (g_BadPlace T) (x_13 T) (x_189 T)) (one_clx (xis_ok (g_BadPrices T) (x_48 T) (x_188 T)) (one_clx (xis_ok (g_BadQuota T) (x_5 T) (x_187 T)) (one_clx (xis_ok (g_BadRacks T) (x_45 T) (x_186 T)) (one_clx (xis_ok (g_BadRecord T) (x_43 T) (x_185 T)) (one_clx (xis_ok (g_BadRun T) (x_41 T) (x_184 T)) (one_clx (xis_ok (g_BadSpread T) (x_39 T) (x_183 T)) (one_clx (xis_ok (g_BadStages T) (x_0 T) (x_182 T)) (one_clx (xis_ok (g_BadStanding T) (x_36 T) (x_181 T)) (one_clx (xis_ok (g_BadText T) (x_15 T) (x_180 T)) (one_clx (xis_ok (g_BadTold T) (x_33 T) (x_179 T)) (one_clx (xis_ok (g_BadWeights T) (x_31 T) (x_178 T)) (one_clx (xis_ok (g_CutOff T) (x_12 T) (x_177 T)) (one_clx (xis_ok (g_NoLots T) (x_28 T) (x_176 T)) (one_clx (xis_ok (g_NoTalk T) (x_14 T) (x_175 T)) (one_clx (xis_ok (g_NotNewest T) (x_25 T) (x_174 T)) (one_clx (xis_ok (g_NotRight T) (x_23 T) (x_173 T)) (one_clx (xis_ok (g_NothingDone T) (x_21 T) (x_172 T)) (one_clx (xis_ok (g_OtherMachines T) (x_19 T) (x_171 T)) no_clx))))))))))))))))))))))))))))))))) no_cls (kits_ok (x_170 T)) (de_var 0)) da_nil))))) (dss_cons (ds_set 1 sc_law_first_marks.nd (de_bin od_add (de_var 1) (de_lst (da_cons (de_isiY rfl (n_isinstance T) (pe_glob (v := .ref (He.ga K "BadHand")) rfl (g_BadHand T) rfl) (.own _) (one_clx (xis_ok (g_BadBook T) (x_3 T) (x_237 T)) (one_clx (xis_ok (g_BadCount T) (x_4 T) (x_236 T)) (one_clx (xis_ok (g_BadCourse T) (x_65 T) (x_235 T)) (one_clx (xis_ok (g_BadDeed T) (x_9 T) (x_234 T)) (one_clx (xis_ok (g_BadEntries T) (x_62 T) (x_233 T)) (one_clx (xis_ok (g_BadFalls T) (x_10 T) (x_232 T)) (one_clx (xis_ok (g_BadFamily T) (x_2 T) (x_231 T)) (one_clx (xis_ok (g_BadHand T) (x_1 T) (x_230 T)) (one_clx (xis_ok (g_BadIndex T) (x_11 T) (x_229 T)) (one_clx (xis_ok (g_BadJournal T) (x_8 T) (x_228 T)) (one_clx (xis_ok (g_BadLeft T) (x_7 T) (x_227 T)) (one_clx (xis_ok (g_BadLog T) (x_54 T) (x_226 T)) (one_clx (xis_ok (g_BadLot T) (x_52 T) (x_225 T)) (one_clx (xis_ok (g_BadMachine T) (x_6 T) (x_224 T)) (one_clx (xis_ok (g_BadPlace T) (x_13 T) (x_223 T)) (one_clx (xis_ok (g_BadPrices T) (x_48 T) (x_222 T)) (one_clx (xis_ok (g_BadQuota T) (x_5 T) (x_221 T)) (one_clx (xis_ok (g_BadRacks T) (x_45 T) (x_220 T)) (one_clx (xis_ok (g_BadRecord T) (x_43 T) (x_219 T)) (one_clx (xis_ok (g_BadRun T) (x_41 T) (x_218 T)) (one_clx (xis_ok (g_BadSpread T) (x_39 T) (x_217 T)) (one_clx (xis_ok (g_BadStages T) (x_0 T) (x_216 T)) (one_clx (xis_ok (g_BadStanding T) (x_36 T) (x_215 T)) (one_clx (xis_ok (g_BadText T) (x_15 T) (x_214 T)) (one_clx (xis_ok (g_BadTold T) (x_33 T) (x_213 T)) (one_clx (xis_ok (g_BadWeights T) (x_31 T) (x_212 T)) (one_clx (xis_ok (g_CutOff T) (x_12 T) (x_211 T)) (one_clx (xis_ok (g_NoLots T) (x_28 T) (x_210 T)) (one_clx (xis_ok (g_NoTalk T) (x_14 T) (x_209 T)) (one_clx (xis_ok (g_NotNewest T) (x_25 T) (x_208 T)) (one_clx (xis_ok (g_NotRight T) (x_23 T) (x_207 T)) (one_clx (xis_ok (g_NothingDone T) (x_21 T) (x_206 T)) (one_clx (xis_ok (g_OtherMachines T) (x_19 T) (x_205 T)) no_clx))))))))))))))))))))))))))))))))) no_cls (kits_ok (x_204 T)) (de_var 0)) (da_cons (de_isiY rfl (n_isinstance T) (pe_glob (v := .ref (He.ga K "BadBook")) rfl (g_BadBook T) rfl) (.own _) (one_clx (xis_ok (g_BadBook T) (x_3 T) (x_271 T)) (one_clx (xis_ok (g_BadCount T) (x_4 T) (x_270 T)) (one_clx (xis_ok (g_BadCourse T) (x_65 T) (x_269 T)) (one_clx (xis_ok (g_BadDeed T) (x_9 T) (x_268 T)) (one_clx (xis_ok (g_BadEntries T) (x_62 T) (x_267 T)) (one_clx (xis_ok (g_BadFalls T) (x_10 T) (x_266 T)) (one_clx (xis_ok (g_BadFamily T) (x_2 T) (x_265 T)) (one_clx (xis_ok (g_BadHand T) (x_1 T) (x_264 T)) (one_clx (xis_ok (g_BadIndex T) (x_11 T) (x_263 T)) (one_clx (xis_ok (g_BadJournal T) (x_8 T) (x_262 T)) (one_clx (xis_ok (g_BadLeft T) (x_7 T) (x_261 T)) (one_clx (xis_ok (g_BadLog T) (x_54 T) (x_260 T)) (one_clx (xis_ok (g_BadLot T) (x_52 T) (x_259 T)) (one_clx (xis_ok (g_BadMachine T) (x_6 T) (x_258 T)) (one_clx (xis_ok (g_BadPlace T) (x_13 T) (x_257 T)) (one_clx (xis_ok (g_BadPrices T) (x_48 T) (x_256 T)) (one_clx (xis_ok (g_BadQuota T) (x_5 T) (x_255 T)) (one_clx (xis_ok (g_BadRacks T) (x_45 T) (x_254 T)) (one_clx (xis_ok (g_BadRecord T) (x_43 T) (x_253 T)) (one_clx (xis_ok (g_BadRun T) (x_41 T) (x_252 T)) (one_clx (xis_ok (g_BadSpread T) (x_39 T) (x_251 T)) (one_clx (xis_ok (g_BadStages T) (x_0 T) (x_250 T)) (one_clx (xis_ok (g_BadStanding T) (x_36 T) (x_249 T)) (one_clx (xis_ok (g_BadText T) (x_15 T) (x_248 T)) (one_clx (xis_ok (g_BadTold T) (x_33 T) (x_247 T)) (one_clx (xis_ok (g_BadWeights T) (x_31 T) (x_246 T)) (one_clx (xis_ok (g_CutOff T) (x_12 T) (x_245 T)) (one_clx (xis_ok (g_NoLots T) (x_28 T) (x_244 T)) (one_clx (xis_ok (g_NoTalk T) (x_14 T) (x_243 T)) (one_clx (xis_ok (g_NotNewest T) (x_25 T) (x_242 T)) (one_clx (xis_ok (g_NotRight T) (x_23 T) (x_241 T)) (one_clx (xis_ok (g_NothingDone T) (x_21 T) (x_240 T)) (one_clx (xis_ok (g_OtherMachines T) (x_19 T) (x_239 T)) no_clx))))))))))))))))))))))))))))))))) no_cls (kits_ok (x_238 T)) (de_var 0)) (da_cons (de_isiY rfl (n_isinstance T) (pe_glob (v := .ref (He.ga K "BadMachine")) rfl (g_BadMachine T) rfl) (.own _) (one_clx (xis_ok (g_BadBook T) (x_3 T) (x_305 T)) (one_clx (xis_ok (g_BadCount T) (x_4 T) (x_304 T)) (one_clx (xis_ok (g_BadCourse T) (x_65 T) (x_303 T)) (one_clx (xis_ok (g_BadDeed T) (x_9 T) (x_302 T)) (one_clx (xis_ok (g_BadEntries T) (x_62 T) (x_301 T)) (one_clx (xis_ok (g_BadFalls T) (x_10 T) (x_300 T)) (one_clx (xis_ok (g_BadFamily T) (x_2 T) (x_299 T)) (one_clx (xis_ok (g_BadHand T) (x_1 T) (x_298 T)) (one_clx (xis_ok (g_BadIndex T) (x_11 T) (x_297 T)) (one_clx (xis_ok (g_BadJournal T) (x_8 T) (x_296 T)) (one_clx (xis_ok (g_BadLeft T) (x_7 T) (x_295 T)) (one_clx (xis_ok (g_BadLog T) (x_54 T) (x_294 T)) (one_clx (xis_ok (g_BadLot T) (x_52 T) (x_293 T)) (one_clx (xis_ok (g_BadMachine T) (x_6 T) (x_292 T)) (one_clx (xis_ok (g_BadPlace T) (x_13 T) (x_291 T)) (one_clx (xis_ok (g_BadPrices T) (x_48 T) (x_290 T)) (one_clx (xis_ok (g_BadQuota T) (x_5 T) (x_289 T)) (one_clx (xis_ok (g_BadRacks T) (x_45 T) (x_288 T)) (one_clx (xis_ok (g_BadRecord T) (x_43 T) (x_287 T)) (one_clx (xis_ok (g_BadRun T) (x_41 T) (x_286 T)) (one_clx (xis_ok (g_BadSpread T) (x_39 T) (x_285 T)) (one_clx (xis_ok (g_BadStages T) (x_0 T) (x_284 T)) (one_clx (xis_ok (g_BadStanding T) (x_36 T) (x_283 T)) (one_clx (xis_ok (g_BadText T) (x_15 T) (x_282 T)) (one_clx (xis_ok (g_BadTold T) (x_33 T) (x_281 T)) (one_clx (xis_ok (g_BadWeights T) (x_31 T) (x_280 T)) (one_clx (xis_ok (g_CutOff T) (x_12 T) (x_279 T)) (one_clx (xis_ok (g_NoLots T) (x_28 T) (x_278 T)) (one_clx (xis_ok (g_NoTalk T) (x_14 T) (x_277 T)) (one_clx (xis_ok (g_NotNewest T) (x_25 T) (x_276 T)) (one_clx (xis_ok (g_NotRight T) (x_23 T) (x_275 T)) (one_clx (xis_ok (g_NothingDone T) (x_21 T) (x_274 T)) (one_clx (xis_ok (g_OtherMachines T) (x_19 T) (x_273 T)) no_clx))))))))))))))))))))))))))))))))) no_cls (kits_ok (x_272 T)) (de_var 0)) da_nil)))))) (dss_cons (ds_set 1 sc_law_first_marks.nd (de_bin od_add (de_var 1) (de_lst (da_cons (de_isiY rfl (n_isinstance T) (pe_glob (v := .ref (He.ga K "BadLeft")) rfl (g_BadLeft T) rfl) (.own _) (one_clx (xis_ok (g_BadBook T) (x_3 T) (x_339 T)) (one_clx (xis_ok (g_BadCount T) (x_4 T) (x_338 T)) (one_clx (xis_ok (g_BadCourse T) (x_65 T) (x_337 T)) (one_clx (xis_ok (g_BadDeed T) (x_9 T) (x_336 T)) (one_clx (xis_ok (g_BadEntries T) (x_62 T) (x_335 T)) (one_clx (xis_ok (g_BadFalls T) (x_10 T) (x_334 T)) (one_clx (xis_ok (g_BadFamily T) (x_2 T) (x_333 T)) (one_clx (xis_ok (g_BadHand T) (x_1 T) (x_332 T)) (one_clx (xis_ok (g_BadIndex T) (x_11 T) (x_331 T)) (one_clx (xis_ok (g_BadJournal T) (x_8 T) (x_330 T)) (one_clx (xis_ok (g_BadLeft T) (x_7 T) (x_329 T)) (one_clx (xis_ok (g_BadLog T) (x_54 T) (x_328 T)) (one_clx (xis_ok (g_BadLot T) (x_52 T) (x_327 T)) (one_clx (xis_ok (g_BadMachine T) (x_6 T) (x_326 T)) (one_clx (xis_ok (g_BadPlace T) (x_13 T) (x_325 T)) (one_clx (xis_ok (g_BadPrices T) (x_48 T) (x_324 T)) (one_clx (xis_ok (g_BadQuota T) (x_5 T) (x_323 T)) (one_clx (xis_ok (g_BadRacks T) (x_45 T) (x_322 T)) (one_clx (xis_ok (g_BadRecord T) (x_43 T) (x_321 T)) (one_clx (xis_ok (g_BadRun T) (x_41 T) (x_320 T)) (one_clx (xis_ok (g_BadSpread T) (x_39 T) (x_319 T)) (one_clx (xis_ok (g_BadStages T) (x_0 T) (x_318 T)) (one_clx (xis_ok (g_BadStanding T) (x_36 T) (x_317 T)) (one_clx (xis_ok (g_BadText T) (x_15 T) (x_316 T)) (one_clx (xis_ok (g_BadTold T) (x_33 T) (x_315 T)) (one_clx (xis_ok (g_BadWeights T) (x_31 T) (x_314 T)) (one_clx (xis_ok (g_CutOff T) (x_12 T) (x_313 T)) (one_clx (xis_ok (g_NoLots T) (x_28 T) (x_312 T)) (one_clx (xis_ok (g_NoTalk T) (x_14 T) (x_311 T)) (one_clx (xis_ok (g_NotNewest T) (x_25 T) (x_310 T)) (one_clx (xis_ok (g_NotRight T) (x_23 T) (x_309 T)) (one_clx (xis_ok (g_NothingDone T) (x_21 T) (x_308 T)) (one_clx (xis_ok (g_OtherMachines T) (x_19 T) (x_307 T)) no_clx))))))))))))))))))))))))))))))))) no_cls (kits_ok (x_306 T)) (de_var 0)) (da_cons (de_isiY rfl (n_isinstance T) (pe_glob (v := .ref (He.ga K "BadDeed")) rfl (g_BadDeed T) rfl) (.own _) (one_clx (xis_ok (g_BadBook T) (x_3 T) (x_373 T)) (one_clx (xis_ok (g_BadCount T) (x_4 T) (x_372 T)) (one_clx (xis_ok (g_BadCourse T) (x_65 T) (x_371 T)) (one_clx (xis_ok (g_BadDeed T) (x_9 T) (x_370 T)) (one_clx (xis_ok (g_BadEntries T) (x_62 T) (x_369 T)) (one_clx (xis_ok (g_BadFalls T) (x_10 T) (x_368 T)) (one_clx (xis_ok (g_BadFamily T) (x_2 T) (x_367 T)) (one_clx (xis_ok (g_BadHand T) (x_1 T) (x_366 T)) (one_clx (xis_ok (g_BadIndex T) (x_11 T) (x_365 T)) (one_clx (xis_ok (g_BadJournal T) (x_8 T) (x_364 T)) (one_clx (xis_ok (g_BadLeft T) (x_7 T) (x_363 T)) (one_clx (xis_ok (g_BadLog T) (x_54 T) (x_362 T)) (one_clx (xis_ok (g_BadLot T) (x_52 T) (x_361 T)) (one_clx (xis_ok (g_BadMachine T) (x_6 T) (x_360 T)) (one_clx (xis_ok (g_BadPlace T) (x_13 T) (x_359 T)) (one_clx (xis_ok (g_BadPrices T) (x_48 T) (x_358 T)) (one_clx (xis_ok (g_BadQuota T) (x_5 T) (x_357 T)) (one_clx (xis_ok (g_BadRacks T) (x_45 T) (x_356 T)) (one_clx (xis_ok (g_BadRecord T) (x_43 T) (x_355 T)) (one_clx (xis_ok (g_BadRun T) (x_41 T) (x_354 T)) (one_clx (xis_ok (g_BadSpread T) (x_39 T) (x_353 T)) (one_clx (xis_ok (g_BadStages T) (x_0 T) (x_352 T)) (one_clx (xis_ok (g_BadStanding T) (x_36 T) (x_351 T)) (one_clx (xis_ok (g_BadText T) (x_15 T) (x_350 T)) (one_clx (xis_ok (g_BadTold T) (x_33 T) (x_349 T)) (one_clx (xis_ok (g_BadWeights T) (x_31 T) (x_348 T)) (one_clx (xis_ok (g_CutOff T) (x_12 T) (x_347 T)) (one_clx (xis_ok (g_NoLots T) (x_28 T) (x_346 T)) (one_clx (xis_ok (g_NoTalk T) (x_14 T) (x_345 T)) (one_clx (xis_ok (g_NotNewest T) (x_25 T) (x_344 T)) (one_clx (xis_ok (g_NotRight T) (x_23 T) (x_343 T)) (one_clx (xis_ok (g_NothingDone T) (x_21 T) (x_342 T)) (one_clx (xis_ok (g_OtherMachines T) (x_19 T) (x_341 T)) no_clx))))))))))))))))))))))))))))))))) no_cls (kits_ok (x_340 T)) (de_var 0)) (da_cons (de_isiY rfl (n_isinstance T) (pe_glob (v := .ref (He.ga K "BadFalls")) rfl (g_BadFalls T) rfl) (.own _) (one_clx (xis_ok (g_BadBook T) (x_3 T) (x_407 T)) (one_clx (xis_ok (g_BadCount T) (x_4 T) (x_406 T)) (one_clx (xis_ok (g_BadCourse T) (x_65 T) (x_405 T)) (one_clx (xis_ok (g_BadDeed T) (x_9 T) (x_404 T)) (one_clx (xis_ok (g_BadEntries T) (x_62 T) (x_403 T)) (one_clx (xis_ok (g_BadFalls T) (x_10 T) (x_402 T)) (one_clx (xis_ok (g_BadFamily T) (x_2 T) (x_401 T)) (one_clx (xis_ok (g_BadHand T) (x_1 T) (x_400 T)) (one_clx (xis_ok (g_BadIndex T) (x_11 T) (x_399 T)) (one_clx (xis_ok (g_BadJournal T) (x_8 T) (x_398 T)) (one_clx (xis_ok (g_BadLeft T) (x_7 T) (x_397 T)) (one_clx (xis_ok (g_BadLog T) (x_54 T) (x_396 T)) (one_clx (xis_ok (g_BadLot T) (x_52 T) (x_395 T)) (one_clx (xis_ok (g_BadMachine T) (x_6 T) (x_394 T)) (one_clx (xis_ok (g_BadPlace T) (x_13 T) (x_393 T)) (one_clx (xis_ok (g_BadPrices T) (x_48 T) (x_392 T)) (one_clx (xis_ok (g_BadQuota T) (x_5 T) (x_391 T)) (one_clx (xis_ok (g_BadRacks T) (x_45 T) (x_390 T)) (one_clx (xis_ok (g_BadRecord T) (x_43 T) (x_389 T)) (one_clx (xis_ok (g_BadRun T) (x_41 T) (x_388 T)) (one_clx (xis_ok (g_BadSpread T) (x_39 T) (x_387 T)) (one_clx (xis_ok (g_BadStages T) (x_0 T) (x_386 T)) (one_clx (xis_ok (g_BadStanding T) (x_36 T) (x_385 T)) (one_clx (xis_ok (g_BadText T) (x_15 T) (x_384 T)) (one_clx (xis_ok (g_BadTold T) (x_33 T) (x_383 T)) (one_clx (xis_ok (g_BadWeights T) (x_31 T) (x_382 T)) (one_clx (xis_ok (g_CutOff T) (x_12 T) (x_381 T)) (one_clx (xis_ok (g_NoLots T) (x_28 T) (x_380 T)) (one_clx (xis_ok (g_NoTalk T) (x_14 T) (x_379 T)) (one_clx (xis_ok (g_NotNewest T) (x_25 T) (x_378 T)) (one_clx (xis_ok (g_NotRight T) (x_23 T) (x_377 T)) (one_clx (xis_ok (g_NothingDone T) (x_21 T) (x_376 T)) (one_clx (xis_ok (g_OtherMachines T) (x_19 T) (x_375 T)) no_clx))))))))))))))))))))))))))))))))) no_cls (kits_ok (x_374 T)) (de_var 0)) da_nil)))))) (dss_cons (ds_set 1 sc_law_first_marks.nd (de_bin od_add (de_var 1) (de_lst (da_cons (de_isiY rfl (n_isinstance T) (pe_glob (v := .ref (He.ga K "BadStages")) rfl (g_BadStages T) rfl) (.own _) (one_clx (xis_ok (g_BadBook T) (x_3 T) (x_441 T)) (one_clx (xis_ok (g_BadCount T) (x_4 T) (x_440 T)) (one_clx (xis_ok (g_BadCourse T) (x_65 T) (x_439 T)) (one_clx (xis_ok (g_BadDeed T) (x_9 T) (x_438 T)) (one_clx (xis_ok (g_BadEntries T) (x_62 T) (x_437 T)) (one_clx (xis_ok (g_BadFalls T) (x_10 T) (x_436 T)) (one_clx (xis_ok (g_BadFamily T) (x_2 T) (x_435 T)) (one_clx (xis_ok (g_BadHand T) (x_1 T) (x_434 T)) (one_clx (xis_ok (g_BadIndex T) (x_11 T) (x_433 T)) (one_clx (xis_ok (g_BadJournal T) (x_8 T) (x_432 T)) (one_clx (xis_ok (g_BadLeft T) (x_7 T) (x_431 T)) (one_clx (xis_ok (g_BadLog T) (x_54 T) (x_430 T)) (one_clx (xis_ok (g_BadLot T) (x_52 T) (x_429 T)) (one_clx (xis_ok (g_BadMachine T) (x_6 T) (x_428 T)) (one_clx (xis_ok (g_BadPlace T) (x_13 T) (x_427 T)) (one_clx (xis_ok (g_BadPrices T) (x_48 T) (x_426 T)) (one_clx (xis_ok (g_BadQuota T) (x_5 T) (x_425 T)) (one_clx (xis_ok (g_BadRacks T) (x_45 T) (x_424 T)) (one_clx (xis_ok (g_BadRecord T) (x_43 T) (x_423 T)) (one_clx (xis_ok (g_BadRun T) (x_41 T) (x_422 T)) (one_clx (xis_ok (g_BadSpread T) (x_39 T) (x_421 T)) (one_clx (xis_ok (g_BadStages T) (x_0 T) (x_420 T)) (one_clx (xis_ok (g_BadStanding T) (x_36 T) (x_419 T)) (one_clx (xis_ok (g_BadText T) (x_15 T) (x_418 T)) (one_clx (xis_ok (g_BadTold T) (x_33 T) (x_417 T)) (one_clx (xis_ok (g_BadWeights T) (x_31 T) (x_416 T)) (one_clx (xis_ok (g_CutOff T) (x_12 T) (x_415 T)) (one_clx (xis_ok (g_NoLots T) (x_28 T) (x_414 T)) (one_clx (xis_ok (g_NoTalk T) (x_14 T) (x_413 T)) (one_clx (xis_ok (g_NotNewest T) (x_25 T) (x_412 T)) (one_clx (xis_ok (g_NotRight T) (x_23 T) (x_411 T)) (one_clx (xis_ok (g_NothingDone T) (x_21 T) (x_410 T)) (one_clx (xis_ok (g_OtherMachines T) (x_19 T) (x_409 T)) no_clx))))))))))))))))))))))))))))))))) no_cls (kits_ok (x_408 T)) (de_var 0)) (da_cons (de_isiY rfl (n_isinstance T) (pe_glob (v := .ref (He.ga K "BadIndex")) rfl (g_BadIndex T) rfl) (.own _) (one_clx (xis_ok (g_BadBook T) (x_3 T) (x_475 T)) (one_clx (xis_ok (g_BadCount T) (x_4 T) (x_474 T)) (one_clx (xis_ok (g_BadCourse T) (x_65 T) (x_473 T)) (one_clx (xis_ok (g_BadDeed T) (x_9 T) (x_472 T)) (one_clx (xis_ok (g_BadEntries T) (x_62 T) (x_471 T)) (one_clx (xis_ok (g_BadFalls T) (x_10 T) (x_470 T)) (one_clx (xis_ok (g_BadFamily T) (x_2 T) (x_469 T)) (one_clx (xis_ok (g_BadHand T) (x_1 T) (x_468 T)) (one_clx (xis_ok (g_BadIndex T) (x_11 T) (x_467 T)) (one_clx (xis_ok (g_BadJournal T) (x_8 T) (x_466 T)) (one_clx (xis_ok (g_BadLeft T) (x_7 T) (x_465 T)) (one_clx (xis_ok (g_BadLog T) (x_54 T) (x_464 T)) (one_clx (xis_ok (g_BadLot T) (x_52 T) (x_463 T)) (one_clx (xis_ok (g_BadMachine T) (x_6 T) (x_462 T)) (one_clx (xis_ok (g_BadPlace T) (x_13 T) (x_461 T)) (one_clx (xis_ok (g_BadPrices T) (x_48 T) (x_460 T)) (one_clx (xis_ok (g_BadQuota T) (x_5 T) (x_459 T)) (one_clx (xis_ok (g_BadRacks T) (x_45 T) (x_458 T)) (one_clx (xis_ok (g_BadRecord T) (x_43 T) (x_457 T)) (one_clx (xis_ok (g_BadRun T) (x_41 T) (x_456 T)) (one_clx (xis_ok (g_BadSpread T) (x_39 T) (x_455 T)) (one_clx (xis_ok (g_BadStages T) (x_0 T) (x_454 T)) (one_clx (xis_ok (g_BadStanding T) (x_36 T) (x_453 T)) (one_clx (xis_ok (g_BadText T) (x_15 T) (x_452 T)) (one_clx (xis_ok (g_BadTold T) (x_33 T) (x_451 T)) (one_clx (xis_ok (g_BadWeights T) (x_31 T) (x_450 T)) (one_clx (xis_ok (g_CutOff T) (x_12 T) (x_449 T)) (one_clx (xis_ok (g_NoLots T) (x_28 T) (x_448 T)) (one_clx (xis_ok (g_NoTalk T) (x_14 T) (x_447 T)) (one_clx (xis_ok (g_NotNewest T) (x_25 T) (x_446 T)) (one_clx (xis_ok (g_NotRight T) (x_23 T) (x_445 T)) (one_clx (xis_ok (g_NothingDone T) (x_21 T) (x_444 T)) (one_clx (xis_ok (g_OtherMachines T) (x_19 T) (x_443 T)) no_clx))))))))))))))))))))))))))))))))) no_cls (kits_ok (x_442 T)) (de_var 0)) (da_cons (de_isiY rfl (n_isinstance T) (pe_glob (v := .ref (He.ga K "BadPlace")) rfl (g_BadPlace T) rfl) (.own _) (one_clx (xis_ok (g_BadBook T) (x_3 T) (x_509 T)) (one_clx (xis_ok (g_BadCount T) (x_4 T) (x_508 T)) (one_clx (xis_ok (g_BadCourse T) (x_65 T) (x_507 T)) (one_clx (xis_ok (g_BadDeed T) (x_9 T) (x_506 T)) (one_clx (xis_ok (g_BadEntries T) (x_62 T) (x_505 T)) (one_clx (xis_ok (g_BadFalls T) (x_10 T) (x_504 T)) (one_clx (xis_ok (g_BadFamily T) (x_2 T) (x_503 T)) (one_clx (xis_ok (g_BadHand T) (x_1 T) (x_502 T)) (one_clx (xis_ok (g_BadIndex T) (x_11 T) (x_501 T)) (one_clx (xis_ok (g_BadJournal T) (x_8 T) (x_500 T)) (one_clx (xis_ok (g_BadLeft T) (x_7 T) (x_499 T)) (one_clx (xis_ok (g_BadLog T) (x_54 T) (x_498 T)) (one_clx (xis_ok (g_BadLot T) (x_52 T) (x_497 T)) (one_clx (xis_ok (g_BadMachine T) (x_6 T) (x_496 T)) (one_clx (xis_ok (g_BadPlace T) (x_13 T) (x_495 T)) (one_clx (xis_ok (g_BadPrices T) (x_48 T) (x_494 T)) (one_clx (xis_ok (g_BadQuota T) (x_5 T) (x_493 T)) (one_clx (xis_ok (g_BadRacks T) (x_45 T) (x_492 T)) (one_clx (xis_ok (g_BadRecord T) (x_43 T) (x_491 T)) (one_clx (xis_ok (g_BadRun T) (x_41 T) (x_490 T)) (one_clx (xis_ok (g_BadSpread T) (x_39 T) (x_489 T)) (one_clx (xis_ok (g_BadStages T) (x_0 T) (x_488 T)) (one_clx (xis_ok (g_BadStanding T) (x_36 T) (x_487 T)) (one_clx (xis_ok (g_BadText T) (x_15 T) (x_486 T)) (one_clx (xis_ok (g_BadTold T) (x_33 T) (x_485 T)) (one_clx (xis_ok (g_BadWeights T) (x_31 T) (x_484 T)) (one_clx (xis_ok (g_CutOff T) (x_12 T) (x_483 T)) (one_clx (xis_ok (g_NoLots T) (x_28 T) (x_482 T)) (one_clx (xis_ok (g_NoTalk T) (x_14 T) (x_481 T)) (one_clx (xis_ok (g_NotNewest T) (x_25 T) (x_480 T)) (one_clx (xis_ok (g_NotRight T) (x_23 T) (x_479 T)) (one_clx (xis_ok (g_NothingDone T) (x_21 T) (x_478 T)) (one_clx (xis_ok (g_OtherMachines T) (x_19 T) (x_477 T)) no_clx))))))))))))))))))))))))))))))))) no_cls (kits_ok (x_476 T)) (de_var 0)) da_nil)))))) (dss_cons (ds_set 1 sc_law_first_marks.nd (de_bin od_add (de_var 1) (de_lst (da_cons (de_isiY rfl (n_isinstance T) (pe_glob (v := .ref (He.ga K "NoTalk")) rfl (g_NoTalk T) rfl) (.own _) (one_clx (xis_ok (g_BadBook T) (x_3 T) (x_543 T)) (one_clx (xis_ok (g_BadCount T) (x_4 T) (x_542 T)) (one_clx (xis_ok (g_BadCourse T) (x_65 T) (x_541 T)) (one_clx (xis_ok (g_BadDeed T) (x_9 T) (x_540 T)) (one_clx (xis_ok (g_BadEntries T) (x_62 T) (x_539 T)) (one_clx (xis_ok (g_BadFalls T) (x_10 T) (x_538 T)) (one_clx (xis_ok (g_BadFamily T) (x_2 T) (x_537 T)) (one_clx (xis_ok (g_BadHand T) (x_1 T) (x_536 T)) (one_clx (xis_ok (g_BadIndex T) (x_11 T) (x_535 T)) (one_clx (xis_ok (g_BadJournal T) (x_8 T) (x_534 T)) (one_clx (xis_ok (g_BadLeft T) (x_7 T) (x_533 T)) (one_clx (xis_ok (g_BadLog T) (x_54 T) (x_532 T)) (one_clx (xis_ok (g_BadLot T) (x_52 T) (x_531 T)) (one_clx (xis_ok (g_BadMachine T) (x_6 T) (x_530 T)) (one_clx (xis_ok (g_BadPlace T) (x_13 T) (x_529 T)) (one_clx (xis_ok (g_BadPrices T) (x_48 T) (x_528 T)) (one_clx (xis_ok (g_BadQuota T) (x_5 T) (x_527 T)) (one_clx (xis_ok (g_BadRacks T) (x_45 T) (x_526 T)) (one_clx (xis_ok (g_BadRecord T) (x_43 T) (x_525 T)) (one_clx (xis_ok (g_BadRun T) (x_41 T) (x_524 T)) (one_clx (xis_ok (g_BadSpread T) (x_39 T) (x_523 T)) (one_clx (xis_ok (g_BadStages T) (x_0 T) (x_522 T)) (one_clx (xis_ok (g_BadStanding T) (x_36 T) (x_521 T)) (one_clx (xis_ok (g_BadText T) (x_15 T) (x_520 T)) (one_clx (xis_ok (g_BadTold T) (x_33 T) (x_519 T)) (one_clx (xis_ok (g_BadWeights T) (x_31 T) (x_518 T)) (one_clx (xis_ok (g_CutOff T) (x_12 T) (x_517 T)) (one_clx (xis_ok (g_NoLots T) (x_28 T) (x_516 T)) (one_clx (xis_ok (g_NoTalk T) (x_14 T) (x_515 T)) (one_clx (xis_ok (g_NotNewest T) (x_25 T) (x_514 T)) (one_clx (xis_ok (g_NotRight T) (x_23 T) (x_513 T)) (one_clx (xis_ok (g_NothingDone T) (x_21 T) (x_512 T)) (one_clx (xis_ok (g_OtherMachines T) (x_19 T) (x_511 T)) no_clx))))))))))))))))))))))))))))))))) no_cls (kits_ok (x_510 T)) (de_var 0)) (da_cons (de_isiY rfl (n_isinstance T) (pe_glob (v := .ref (He.ga K "CutOff")) rfl (g_CutOff T) rfl) (.own _) (one_clx (xis_ok (g_BadBook T) (x_3 T) (x_577 T)) (one_clx (xis_ok (g_BadCount T) (x_4 T) (x_576 T)) (one_clx (xis_ok (g_BadCourse T) (x_65 T) (x_575 T)) (one_clx (xis_ok (g_BadDeed T) (x_9 T) (x_574 T)) (one_clx (xis_ok (g_BadEntries T) (x_62 T) (x_573 T)) (one_clx (xis_ok (g_BadFalls T) (x_10 T) (x_572 T)) (one_clx (xis_ok (g_BadFamily T) (x_2 T) (x_571 T)) (one_clx (xis_ok (g_BadHand T) (x_1 T) (x_570 T)) (one_clx (xis_ok (g_BadIndex T) (x_11 T) (x_569 T)) (one_clx (xis_ok (g_BadJournal T) (x_8 T) (x_568 T)) (one_clx (xis_ok (g_BadLeft T) (x_7 T) (x_567 T)) (one_clx (xis_ok (g_BadLog T) (x_54 T) (x_566 T)) (one_clx (xis_ok (g_BadLot T) (x_52 T) (x_565 T)) (one_clx (xis_ok (g_BadMachine T) (x_6 T) (x_564 T)) (one_clx (xis_ok (g_BadPlace T) (x_13 T) (x_563 T)) (one_clx (xis_ok (g_BadPrices T) (x_48 T) (x_562 T)) (one_clx (xis_ok (g_BadQuota T) (x_5 T) (x_561 T)) (one_clx (xis_ok (g_BadRacks T) (x_45 T) (x_560 T)) (one_clx (xis_ok (g_BadRecord T) (x_43 T) (x_559 T)) (one_clx (xis_ok (g_BadRun T) (x_41 T) (x_558 T)) (one_clx (xis_ok (g_BadSpread T) (x_39 T) (x_557 T)) (one_clx (xis_ok (g_BadStages T) (x_0 T) (x_556 T)) (one_clx (xis_ok (g_BadStanding T) (x_36 T) (x_555 T)) (one_clx (xis_ok (g_BadText T) (x_15 T) (x_554 T)) (one_clx (xis_ok (g_BadTold T) (x_33 T) (x_553 T)) (one_clx (xis_ok (g_BadWeights T) (x_31 T) (x_552 T)) (one_clx (xis_ok (g_CutOff T) (x_12 T) (x_551 T)) (one_clx (xis_ok (g_NoLots T) (x_28 T) (x_550 T)) (one_clx (xis_ok (g_NoTalk T) (x_14 T) (x_549 T)) (one_clx (xis_ok (g_NotNewest T) (x_25 T) (x_548 T)) (one_clx (xis_ok (g_NotRight T) (x_23 T) (x_547 T)) (one_clx (xis_ok (g_NothingDone T) (x_21 T) (x_546 T)) (one_clx (xis_ok (g_OtherMachines T) (x_19 T) (x_545 T)) no_clx))))))))))))))))))))))))))))))))) no_cls (kits_ok (x_544 T)) (de_var 0)) (da_cons (de_isiY rfl (n_isinstance T) (pe_glob (v := .ref (He.ga K "BadJournal")) rfl (g_BadJournal T) rfl) (.own _) (one_clx (xis_ok (g_BadBook T) (x_3 T) (x_611 T)) (one_clx (xis_ok (g_BadCount T) (x_4 T) (x_610 T)) (one_clx (xis_ok (g_BadCourse T) (x_65 T) (x_609 T)) (one_clx (xis_ok (g_BadDeed T) (x_9 T) (x_608 T)) (one_clx (xis_ok (g_BadEntries T) (x_62 T) (x_607 T)) (one_clx (xis_ok (g_BadFalls T) (x_10 T) (x_606 T)) (one_clx (xis_ok (g_BadFamily T) (x_2 T) (x_605 T)) (one_clx (xis_ok (g_BadHand T) (x_1 T) (x_604 T)) (one_clx (xis_ok (g_BadIndex T) (x_11 T) (x_603 T)) (one_clx (xis_ok (g_BadJournal T) (x_8 T) (x_602 T)) (one_clx (xis_ok (g_BadLeft T) (x_7 T) (x_601 T)) (one_clx (xis_ok (g_BadLog T) (x_54 T) (x_600 T)) (one_clx (xis_ok (g_BadLot T) (x_52 T) (x_599 T)) (one_clx (xis_ok (g_BadMachine T) (x_6 T) (x_598 T)) (one_clx (xis_ok (g_BadPlace T) (x_13 T) (x_597 T)) (one_clx (xis_ok (g_BadPrices T) (x_48 T) (x_596 T)) (one_clx (xis_ok (g_BadQuota T) (x_5 T) (x_595 T)) (one_clx (xis_ok (g_BadRacks T) (x_45 T) (x_594 T)) (one_clx (xis_ok (g_BadRecord T) (x_43 T) (x_593 T)) (one_clx (xis_ok (g_BadRun T) (x_41 T) (x_592 T)) (one_clx (xis_ok (g_BadSpread T) (x_39 T) (x_591 T)) (one_clx (xis_ok (g_BadStages T) (x_0 T) (x_590 T)) (one_clx (xis_ok (g_BadStanding T) (x_36 T) (x_589 T)) (one_clx (xis_ok (g_BadText T) (x_15 T) (x_588 T)) (one_clx (xis_ok (g_BadTold T) (x_33 T) (x_587 T)) (one_clx (xis_ok (g_BadWeights T) (x_31 T) (x_586 T)) (one_clx (xis_ok (g_CutOff T) (x_12 T) (x_585 T)) (one_clx (xis_ok (g_NoLots T) (x_28 T) (x_584 T)) (one_clx (xis_ok (g_NoTalk T) (x_14 T) (x_583 T)) (one_clx (xis_ok (g_NotNewest T) (x_25 T) (x_582 T)) (one_clx (xis_ok (g_NotRight T) (x_23 T) (x_581 T)) (one_clx (xis_ok (g_NothingDone T) (x_21 T) (x_580 T)) (one_clx (xis_ok (g_OtherMachines T) (x_19 T) (x_579 T)) no_clx))))))))))))))))))))))))))))))))) no_cls (kits_ok (x_578 T)) (de_var 0)) da_nil)))))) (dss_one (ds_ret (de_bin od_add (de_var 1) (de_lst (da_cons (de_isiY rfl (n_isinstance T) (pe_glob (v := .ref (He.ga K "BadText")) rfl (g_BadText T) rfl) (.own _) (one_clx (xis_ok (g_BadBook T) (x_3 T) (x_645 T)) (one_clx (xis_ok (g_BadCount T) (x_4 T) (x_644 T)) (one_clx (xis_ok (g_BadCourse T) (x_65 T) (x_643 T)) (one_clx (xis_ok (g_BadDeed T) (x_9 T) (x_642 T)) (one_clx (xis_ok (g_BadEntries T) (x_62 T) (x_641 T)) (one_clx (xis_ok (g_BadFalls T) (x_10 T) (x_640 T)) (one_clx (xis_ok (g_BadFamily T) (x_2 T) (x_639 T)) (one_clx (xis_ok (g_BadHand T) (x_1 T) (x_638 T)) (one_clx (xis_ok (g_BadIndex T) (x_11 T) (x_637 T)) (one_clx (xis_ok (g_BadJournal T) (x_8 T) (x_636 T)) (one_clx (xis_ok (g_BadLeft T) (x_7 T) (x_635 T)) (one_clx (xis_ok (g_BadLog T) (x_54 T) (x_634 T)) (one_clx (xis_ok (g_BadLot T) (x_52 T) (x_633 T)) (one_clx (xis_ok (g_BadMachine T) (x_6 T) (x_632 T)) (one_clx (xis_ok (g_BadPlace T) (x_13 T) (x_631 T)) (one_clx (xis_ok (g_BadPrices T) (x_48 T) (x_630 T)) (one_clx (xis_ok (g_BadQuota T) (x_5 T) (x_629 T)) (one_clx (xis_ok (g_BadRacks T) (x_45 T) (x_628 T)) (one_clx (xis_ok (g_BadRecord T) (x_43 T) (x_627 T)) (one_clx (xis_ok (g_BadRun T) (x_41 T) (x_626 T)) (one_clx (xis_ok (g_BadSpread T) (x_39 T) (x_625 T)) (one_clx (xis_ok (g_BadStages T) (x_0 T) (x_624 T)) (one_clx (xis_ok (g_BadStanding T) (x_36 T) (x_623 T)) (one_clx (xis_ok (g_BadText T) (x_15 T) (x_622 T)) (one_clx (xis_ok (g_BadTold T) (x_33 T) (x_621 T)) (one_clx (xis_ok (g_BadWeights T) (x_31 T) (x_620 T)) (one_clx (xis_ok (g_CutOff T) (x_12 T) (x_619 T)) (one_clx (xis_ok (g_NoLots T) (x_28 T) (x_618 T)) (one_clx (xis_ok (g_NoTalk T) (x_14 T) (x_617 T)) (one_clx (xis_ok (g_NotNewest T) (x_25 T) (x_616 T)) (one_clx (xis_ok (g_NotRight T) (x_23 T) (x_615 T)) (one_clx (xis_ok (g_NothingDone T) (x_21 T) (x_614 T)) (one_clx (xis_ok (g_OtherMachines T) (x_19 T) (x_613 T)) no_clx))))))))))))))))))))))))))))))))) no_cls (kits_ok (x_612 T)) (de_var 0)) da_nil)))))))))))
  exact R
theorem fd_law_last_marks : ∃ fd, FunD K "_law_last_marks" "_law_last_marks" (defArgs s_law_last_marks) (defBody s_law_last_marks) (defScope s_law_last_marks) [] [] (He.ga K "_law_last_marks") fd := T.c.z.y.d.def_ 8 (d := d_law_last_marks) rfl
theorem f_law_last_marks : DFn P w K mg base "_law_last_marks" 1 1 m_law_last_marks := by
  obtain ⟨fd, F⟩ := fd_law_last_marks T
  refine def_of (g__law_last_marks T) F.kp rfl (F.bindsN (ps := ["_law_error"]) fun _ _ _ _ _ _ us hl => match us, hl with | [_], _ => by kernel_rfl) ?_
  have R := @dfn_of P w K mg base _ _ s_law_last_marks _ fd N_law_last_marks _ 0 _ b_law_last_marks _ _ F sc_law_last_marks rfl (fun cdv A outer s H E dl hr tk hp => by
    exact (dss_cons (ds_set 1 sc_law_last_marks.nd (de_lst (da_cons (de_isiY rfl (n_isinstance T) (pe_glob (v := .ref (He.ga K "OtherMachines")) rfl (g_OtherMachines T) rfl) (.own _) (one_clx (xis_ok (g_BadBook T) (x_3 T) (x_679 T)) (one_clx (xis_ok (g_BadCount T) (x_4 T) (x_678 T)) (one_clx (xis_ok (g_BadCourse T) (x_65 T) (x_677 T)) (one_clx (xis_ok (g_BadDeed T) (x_9 T) (x_676 T)) (one_clx (xis_ok (g_BadEntries T) (x_62 T) (x_675 T)) (one_clx (xis_ok (g_BadFalls T) (x_10 T) (x_674 T)) (one_clx (xis_ok (g_BadFamily T) (x_2 T) (x_673 T)) (one_clx (xis_ok (g_BadHand T) (x_1 T) (x_672 T)) (one_clx (xis_ok (g_BadIndex T) (x_11 T) (x_671 T)) (one_clx (xis_ok (g_BadJournal T) (x_8 T) (x_670 T)) (one_clx (xis_ok (g_BadLeft T) (x_7 T) (x_669 T)) (one_clx (xis_ok (g_BadLog T) (x_54 T) (x_668 T)) (one_clx (xis_ok (g_BadLot T) (x_52 T) (x_667 T)) (one_clx (xis_ok (g_BadMachine T) (x_6 T) (x_666 T)) (one_clx (xis_ok (g_BadPlace T) (x_13 T) (x_665 T)) (one_clx (xis_ok (g_BadPrices T) (x_48 T) (x_664 T)) (one_clx (xis_ok (g_BadQuota T) (x_5 T) (x_663 T)) (one_clx (xis_ok (g_BadRacks T) (x_45 T) (x_662 T)) (one_clx (xis_ok (g_BadRecord T) (x_43 T) (x_661 T)) (one_clx (xis_ok (g_BadRun T) (x_41 T) (x_660 T)) (one_clx (xis_ok (g_BadSpread T) (x_39 T) (x_659 T)) (one_clx (xis_ok (g_BadStages T) (x_0 T) (x_658 T)) (one_clx (xis_ok (g_BadStanding T) (x_36 T) (x_657 T)) (one_clx (xis_ok (g_BadText T) (x_15 T) (x_656 T)) (one_clx (xis_ok (g_BadTold T) (x_33 T) (x_655 T)) (one_clx (xis_ok (g_BadWeights T) (x_31 T) (x_654 T)) (one_clx (xis_ok (g_CutOff T) (x_12 T) (x_653 T)) (one_clx (xis_ok (g_NoLots T) (x_28 T) (x_652 T)) (one_clx (xis_ok (g_NoTalk T) (x_14 T) (x_651 T)) (one_clx (xis_ok (g_NotNewest T) (x_25 T) (x_650 T)) (one_clx (xis_ok (g_NotRight T) (x_23 T) (x_649 T)) (one_clx (xis_ok (g_NothingDone T) (x_21 T) (x_648 T)) (one_clx (xis_ok (g_OtherMachines T) (x_19 T) (x_647 T)) no_clx))))))))))))))))))))))))))))))))) no_cls (kits_ok (x_646 T)) (de_var 0)) (da_cons (de_isiY rfl (n_isinstance T) (pe_glob (v := .ref (He.ga K "BadLot")) rfl (g_BadLot T) rfl) (.own _) (one_clx (xis_ok (g_BadBook T) (x_3 T) (x_713 T)) (one_clx (xis_ok (g_BadCount T) (x_4 T) (x_712 T)) (one_clx (xis_ok (g_BadCourse T) (x_65 T) (x_711 T)) (one_clx (xis_ok (g_BadDeed T) (x_9 T) (x_710 T)) (one_clx (xis_ok (g_BadEntries T) (x_62 T) (x_709 T)) (one_clx (xis_ok (g_BadFalls T) (x_10 T) (x_708 T)) (one_clx (xis_ok (g_BadFamily T) (x_2 T) (x_707 T)) (one_clx (xis_ok (g_BadHand T) (x_1 T) (x_706 T)) (one_clx (xis_ok (g_BadIndex T) (x_11 T) (x_705 T)) (one_clx (xis_ok (g_BadJournal T) (x_8 T) (x_704 T)) (one_clx (xis_ok (g_BadLeft T) (x_7 T) (x_703 T)) (one_clx (xis_ok (g_BadLog T) (x_54 T) (x_702 T)) (one_clx (xis_ok (g_BadLot T) (x_52 T) (x_701 T)) (one_clx (xis_ok (g_BadMachine T) (x_6 T) (x_700 T)) (one_clx (xis_ok (g_BadPlace T) (x_13 T) (x_699 T)) (one_clx (xis_ok (g_BadPrices T) (x_48 T) (x_698 T)) (one_clx (xis_ok (g_BadQuota T) (x_5 T) (x_697 T)) (one_clx (xis_ok (g_BadRacks T) (x_45 T) (x_696 T)) (one_clx (xis_ok (g_BadRecord T) (x_43 T) (x_695 T)) (one_clx (xis_ok (g_BadRun T) (x_41 T) (x_694 T)) (one_clx (xis_ok (g_BadSpread T) (x_39 T) (x_693 T)) (one_clx (xis_ok (g_BadStages T) (x_0 T) (x_692 T)) (one_clx (xis_ok (g_BadStanding T) (x_36 T) (x_691 T)) (one_clx (xis_ok (g_BadText T) (x_15 T) (x_690 T)) (one_clx (xis_ok (g_BadTold T) (x_33 T) (x_689 T)) (one_clx (xis_ok (g_BadWeights T) (x_31 T) (x_688 T)) (one_clx (xis_ok (g_CutOff T) (x_12 T) (x_687 T)) (one_clx (xis_ok (g_NoLots T) (x_28 T) (x_686 T)) (one_clx (xis_ok (g_NoTalk T) (x_14 T) (x_685 T)) (one_clx (xis_ok (g_NotNewest T) (x_25 T) (x_684 T)) (one_clx (xis_ok (g_NotRight T) (x_23 T) (x_683 T)) (one_clx (xis_ok (g_NothingDone T) (x_21 T) (x_682 T)) (one_clx (xis_ok (g_OtherMachines T) (x_19 T) (x_681 T)) no_clx))))))))))))))))))))))))))))))))) no_cls (kits_ok (x_680 T)) (de_var 0)) (da_cons (de_isiY rfl (n_isinstance T) (pe_glob (v := .ref (He.ga K "BadWeights")) rfl (g_BadWeights T) rfl) (.own _) (one_clx (xis_ok (g_BadBook T) (x_3 T) (x_747 T)) (one_clx (xis_ok (g_BadCount T) (x_4 T) (x_746 T)) (one_clx (xis_ok (g_BadCourse T) (x_65 T) (x_745 T)) (one_clx (xis_ok (g_BadDeed T) (x_9 T) (x_744 T)) (one_clx (xis_ok (g_BadEntries T) (x_62 T) (x_743 T)) (one_clx (xis_ok (g_BadFalls T) (x_10 T) (x_742 T)) (one_clx (xis_ok (g_BadFamily T) (x_2 T) (x_741 T)) (one_clx (xis_ok (g_BadHand T) (x_1 T) (x_740 T)) (one_clx (xis_ok (g_BadIndex T) (x_11 T) (x_739 T)) (one_clx (xis_ok (g_BadJournal T) (x_8 T) (x_738 T)) (one_clx (xis_ok (g_BadLeft T) (x_7 T) (x_737 T)) (one_clx (xis_ok (g_BadLog T) (x_54 T) (x_736 T)) (one_clx (xis_ok (g_BadLot T) (x_52 T) (x_735 T)) (one_clx (xis_ok (g_BadMachine T) (x_6 T) (x_734 T)) (one_clx (xis_ok (g_BadPlace T) (x_13 T) (x_733 T)) (one_clx (xis_ok (g_BadPrices T) (x_48 T) (x_732 T)) (one_clx (xis_ok (g_BadQuota T) (x_5 T) (x_731 T)) (one_clx (xis_ok (g_BadRacks T) (x_45 T) (x_730 T)) (one_clx (xis_ok (g_BadRecord T) (x_43 T) (x_729 T)) (one_clx (xis_ok (g_BadRun T) (x_41 T) (x_728 T)) (one_clx (xis_ok (g_BadSpread T) (x_39 T) (x_727 T)) (one_clx (xis_ok (g_BadStages T) (x_0 T) (x_726 T)) (one_clx (xis_ok (g_BadStanding T) (x_36 T) (x_725 T)) (one_clx (xis_ok (g_BadText T) (x_15 T) (x_724 T)) (one_clx (xis_ok (g_BadTold T) (x_33 T) (x_723 T)) (one_clx (xis_ok (g_BadWeights T) (x_31 T) (x_722 T)) (one_clx (xis_ok (g_CutOff T) (x_12 T) (x_721 T)) (one_clx (xis_ok (g_NoLots T) (x_28 T) (x_720 T)) (one_clx (xis_ok (g_NoTalk T) (x_14 T) (x_719 T)) (one_clx (xis_ok (g_NotNewest T) (x_25 T) (x_718 T)) (one_clx (xis_ok (g_NotRight T) (x_23 T) (x_717 T)) (one_clx (xis_ok (g_NothingDone T) (x_21 T) (x_716 T)) (one_clx (xis_ok (g_OtherMachines T) (x_19 T) (x_715 T)) no_clx))))))))))))))))))))))))))))))))) no_cls (kits_ok (x_714 T)) (de_var 0)) da_nil))))) (dss_cons (ds_set 1 sc_law_last_marks.nd (de_bin od_add (de_var 1) (de_lst (da_cons (de_isiY rfl (n_isinstance T) (pe_glob (v := .ref (He.ga K "BadRacks")) rfl (g_BadRacks T) rfl) (.own _) (one_clx (xis_ok (g_BadBook T) (x_3 T) (x_781 T)) (one_clx (xis_ok (g_BadCount T) (x_4 T) (x_780 T)) (one_clx (xis_ok (g_BadCourse T) (x_65 T) (x_779 T)) (one_clx (xis_ok (g_BadDeed T) (x_9 T) (x_778 T)) (one_clx (xis_ok (g_BadEntries T) (x_62 T) (x_777 T)) (one_clx (xis_ok (g_BadFalls T) (x_10 T) (x_776 T)) (one_clx (xis_ok (g_BadFamily T) (x_2 T) (x_775 T)) (one_clx (xis_ok (g_BadHand T) (x_1 T) (x_774 T)) (one_clx (xis_ok (g_BadIndex T) (x_11 T) (x_773 T)) (one_clx (xis_ok (g_BadJournal T) (x_8 T) (x_772 T)) (one_clx (xis_ok (g_BadLeft T) (x_7 T) (x_771 T)) (one_clx (xis_ok (g_BadLog T) (x_54 T) (x_770 T)) (one_clx (xis_ok (g_BadLot T) (x_52 T) (x_769 T)) (one_clx (xis_ok (g_BadMachine T) (x_6 T) (x_768 T)) (one_clx (xis_ok (g_BadPlace T) (x_13 T) (x_767 T)) (one_clx (xis_ok (g_BadPrices T) (x_48 T) (x_766 T)) (one_clx (xis_ok (g_BadQuota T) (x_5 T) (x_765 T)) (one_clx (xis_ok (g_BadRacks T) (x_45 T) (x_764 T)) (one_clx (xis_ok (g_BadRecord T) (x_43 T) (x_763 T)) (one_clx (xis_ok (g_BadRun T) (x_41 T) (x_762 T)) (one_clx (xis_ok (g_BadSpread T) (x_39 T) (x_761 T)) (one_clx (xis_ok (g_BadStages T) (x_0 T) (x_760 T)) (one_clx (xis_ok (g_BadStanding T) (x_36 T) (x_759 T)) (one_clx (xis_ok (g_BadText T) (x_15 T) (x_758 T)) (one_clx (xis_ok (g_BadTold T) (x_33 T) (x_757 T)) (one_clx (xis_ok (g_BadWeights T) (x_31 T) (x_756 T)) (one_clx (xis_ok (g_CutOff T) (x_12 T) (x_755 T)) (one_clx (xis_ok (g_NoLots T) (x_28 T) (x_754 T)) (one_clx (xis_ok (g_NoTalk T) (x_14 T) (x_753 T)) (one_clx (xis_ok (g_NotNewest T) (x_25 T) (x_752 T)) (one_clx (xis_ok (g_NotRight T) (x_23 T) (x_751 T)) (one_clx (xis_ok (g_NothingDone T) (x_21 T) (x_750 T)) (one_clx (xis_ok (g_OtherMachines T) (x_19 T) (x_749 T)) no_clx))))))))))))))))))))))))))))))))) no_cls (kits_ok (x_748 T)) (de_var 0)) (da_cons (de_isiY rfl (n_isinstance T) (pe_glob (v := .ref (He.ga K "BadLog")) rfl (g_BadLog T) rfl) (.own _) (one_clx (xis_ok (g_BadBook T) (x_3 T) (x_815 T)) (one_clx (xis_ok (g_BadCount T) (x_4 T) (x_814 T)) (one_clx (xis_ok (g_BadCourse T) (x_65 T) (x_813 T)) (one_clx (xis_ok (g_BadDeed T) (x_9 T) (x_812 T)) (one_clx (xis_ok (g_BadEntries T) (x_62 T) (x_811 T)) (one_clx (xis_ok (g_BadFalls T) (x_10 T) (x_810 T)) (one_clx (xis_ok (g_BadFamily T) (x_2 T) (x_809 T)) (one_clx (xis_ok (g_BadHand T) (x_1 T) (x_808 T)) (one_clx (xis_ok (g_BadIndex T) (x_11 T) (x_807 T)) (one_clx (xis_ok (g_BadJournal T) (x_8 T) (x_806 T)) (one_clx (xis_ok (g_BadLeft T) (x_7 T) (x_805 T)) (one_clx (xis_ok (g_BadLog T) (x_54 T) (x_804 T)) (one_clx (xis_ok (g_BadLot T) (x_52 T) (x_803 T)) (one_clx (xis_ok (g_BadMachine T) (x_6 T) (x_802 T)) (one_clx (xis_ok (g_BadPlace T) (x_13 T) (x_801 T)) (one_clx (xis_ok (g_BadPrices T) (x_48 T) (x_800 T)) (one_clx (xis_ok (g_BadQuota T) (x_5 T) (x_799 T)) (one_clx (xis_ok (g_BadRacks T) (x_45 T) (x_798 T)) (one_clx (xis_ok (g_BadRecord T) (x_43 T) (x_797 T)) (one_clx (xis_ok (g_BadRun T) (x_41 T) (x_796 T)) (one_clx (xis_ok (g_BadSpread T) (x_39 T) (x_795 T)) (one_clx (xis_ok (g_BadStages T) (x_0 T) (x_794 T)) (one_clx (xis_ok (g_BadStanding T) (x_36 T) (x_793 T)) (one_clx (xis_ok (g_BadText T) (x_15 T) (x_792 T)) (one_clx (xis_ok (g_BadTold T) (x_33 T) (x_791 T)) (one_clx (xis_ok (g_BadWeights T) (x_31 T) (x_790 T)) (one_clx (xis_ok (g_CutOff T) (x_12 T) (x_789 T)) (one_clx (xis_ok (g_NoLots T) (x_28 T) (x_788 T)) (one_clx (xis_ok (g_NoTalk T) (x_14 T) (x_787 T)) (one_clx (xis_ok (g_NotNewest T) (x_25 T) (x_786 T)) (one_clx (xis_ok (g_NotRight T) (x_23 T) (x_785 T)) (one_clx (xis_ok (g_NothingDone T) (x_21 T) (x_784 T)) (one_clx (xis_ok (g_OtherMachines T) (x_19 T) (x_783 T)) no_clx))))))))))))))))))))))))))))))))) no_cls (kits_ok (x_782 T)) (de_var 0)) (da_cons (de_isiY rfl (n_isinstance T) (pe_glob (v := .ref (He.ga K "BadRecord")) rfl (g_BadRecord T) rfl) (.own _) (one_clx (xis_ok (g_BadBook T) (x_3 T) (x_849 T)) (one_clx (xis_ok (g_BadCount T) (x_4 T) (x_848 T)) (one_clx (xis_ok (g_BadCourse T) (x_65 T) (x_847 T)) (one_clx (xis_ok (g_BadDeed T) (x_9 T) (x_846 T)) (one_clx (xis_ok (g_BadEntries T) (x_62 T) (x_845 T)) (one_clx (xis_ok (g_BadFalls T) (x_10 T) (x_844 T)) (one_clx (xis_ok (g_BadFamily T) (x_2 T) (x_843 T)) (one_clx (xis_ok (g_BadHand T) (x_1 T) (x_842 T)) (one_clx (xis_ok (g_BadIndex T) (x_11 T) (x_841 T)) (one_clx (xis_ok (g_BadJournal T) (x_8 T) (x_840 T)) (one_clx (xis_ok (g_BadLeft T) (x_7 T) (x_839 T)) (one_clx (xis_ok (g_BadLog T) (x_54 T) (x_838 T)) (one_clx (xis_ok (g_BadLot T) (x_52 T) (x_837 T)) (one_clx (xis_ok (g_BadMachine T) (x_6 T) (x_836 T)) (one_clx (xis_ok (g_BadPlace T) (x_13 T) (x_835 T)) (one_clx (xis_ok (g_BadPrices T) (x_48 T) (x_834 T)) (one_clx (xis_ok (g_BadQuota T) (x_5 T) (x_833 T)) (one_clx (xis_ok (g_BadRacks T) (x_45 T) (x_832 T)) (one_clx (xis_ok (g_BadRecord T) (x_43 T) (x_831 T)) (one_clx (xis_ok (g_BadRun T) (x_41 T) (x_830 T)) (one_clx (xis_ok (g_BadSpread T) (x_39 T) (x_829 T)) (one_clx (xis_ok (g_BadStages T) (x_0 T) (x_828 T)) (one_clx (xis_ok (g_BadStanding T) (x_36 T) (x_827 T)) (one_clx (xis_ok (g_BadText T) (x_15 T) (x_826 T)) (one_clx (xis_ok (g_BadTold T) (x_33 T) (x_825 T)) (one_clx (xis_ok (g_BadWeights T) (x_31 T) (x_824 T)) (one_clx (xis_ok (g_CutOff T) (x_12 T) (x_823 T)) (one_clx (xis_ok (g_NoLots T) (x_28 T) (x_822 T)) (one_clx (xis_ok (g_NoTalk T) (x_14 T) (x_821 T)) (one_clx (xis_ok (g_NotNewest T) (x_25 T) (x_820 T)) (one_clx (xis_ok (g_NotRight T) (x_23 T) (x_819 T)) (one_clx (xis_ok (g_NothingDone T) (x_21 T) (x_818 T)) (one_clx (xis_ok (g_OtherMachines T) (x_19 T) (x_817 T)) no_clx))))))))))))))))))))))))))))))))) no_cls (kits_ok (x_816 T)) (de_var 0)) da_nil)))))) (dss_cons (ds_set 1 sc_law_last_marks.nd (de_bin od_add (de_var 1) (de_lst (da_cons (de_isiY rfl (n_isinstance T) (pe_glob (v := .ref (He.ga K "BadStanding")) rfl (g_BadStanding T) rfl) (.own _) (one_clx (xis_ok (g_BadBook T) (x_3 T) (x_883 T)) (one_clx (xis_ok (g_BadCount T) (x_4 T) (x_882 T)) (one_clx (xis_ok (g_BadCourse T) (x_65 T) (x_881 T)) (one_clx (xis_ok (g_BadDeed T) (x_9 T) (x_880 T)) (one_clx (xis_ok (g_BadEntries T) (x_62 T) (x_879 T)) (one_clx (xis_ok (g_BadFalls T) (x_10 T) (x_878 T)) (one_clx (xis_ok (g_BadFamily T) (x_2 T) (x_877 T)) (one_clx (xis_ok (g_BadHand T) (x_1 T) (x_876 T)) (one_clx (xis_ok (g_BadIndex T) (x_11 T) (x_875 T)) (one_clx (xis_ok (g_BadJournal T) (x_8 T) (x_874 T)) (one_clx (xis_ok (g_BadLeft T) (x_7 T) (x_873 T)) (one_clx (xis_ok (g_BadLog T) (x_54 T) (x_872 T)) (one_clx (xis_ok (g_BadLot T) (x_52 T) (x_871 T)) (one_clx (xis_ok (g_BadMachine T) (x_6 T) (x_870 T)) (one_clx (xis_ok (g_BadPlace T) (x_13 T) (x_869 T)) (one_clx (xis_ok (g_BadPrices T) (x_48 T) (x_868 T)) (one_clx (xis_ok (g_BadQuota T) (x_5 T) (x_867 T)) (one_clx (xis_ok (g_BadRacks T) (x_45 T) (x_866 T)) (one_clx (xis_ok (g_BadRecord T) (x_43 T) (x_865 T)) (one_clx (xis_ok (g_BadRun T) (x_41 T) (x_864 T)) (one_clx (xis_ok (g_BadSpread T) (x_39 T) (x_863 T)) (one_clx (xis_ok (g_BadStages T) (x_0 T) (x_862 T)) (one_clx (xis_ok (g_BadStanding T) (x_36 T) (x_861 T)) (one_clx (xis_ok (g_BadText T) (x_15 T) (x_860 T)) (one_clx (xis_ok (g_BadTold T) (x_33 T) (x_859 T)) (one_clx (xis_ok (g_BadWeights T) (x_31 T) (x_858 T)) (one_clx (xis_ok (g_CutOff T) (x_12 T) (x_857 T)) (one_clx (xis_ok (g_NoLots T) (x_28 T) (x_856 T)) (one_clx (xis_ok (g_NoTalk T) (x_14 T) (x_855 T)) (one_clx (xis_ok (g_NotNewest T) (x_25 T) (x_854 T)) (one_clx (xis_ok (g_NotRight T) (x_23 T) (x_853 T)) (one_clx (xis_ok (g_NothingDone T) (x_21 T) (x_852 T)) (one_clx (xis_ok (g_OtherMachines T) (x_19 T) (x_851 T)) no_clx))))))))))))))))))))))))))))))))) no_cls (kits_ok (x_850 T)) (de_var 0)) (da_cons (de_isiY rfl (n_isinstance T) (pe_glob (v := .ref (He.ga K "BadTold")) rfl (g_BadTold T) rfl) (.own _) (one_clx (xis_ok (g_BadBook T) (x_3 T) (x_917 T)) (one_clx (xis_ok (g_BadCount T) (x_4 T) (x_916 T)) (one_clx (xis_ok (g_BadCourse T) (x_65 T) (x_915 T)) (one_clx (xis_ok (g_BadDeed T) (x_9 T) (x_914 T)) (one_clx (xis_ok (g_BadEntries T) (x_62 T) (x_913 T)) (one_clx (xis_ok (g_BadFalls T) (x_10 T) (x_912 T)) (one_clx (xis_ok (g_BadFamily T) (x_2 T) (x_911 T)) (one_clx (xis_ok (g_BadHand T) (x_1 T) (x_910 T)) (one_clx (xis_ok (g_BadIndex T) (x_11 T) (x_909 T)) (one_clx (xis_ok (g_BadJournal T) (x_8 T) (x_908 T)) (one_clx (xis_ok (g_BadLeft T) (x_7 T) (x_907 T)) (one_clx (xis_ok (g_BadLog T) (x_54 T) (x_906 T)) (one_clx (xis_ok (g_BadLot T) (x_52 T) (x_905 T)) (one_clx (xis_ok (g_BadMachine T) (x_6 T) (x_904 T)) (one_clx (xis_ok (g_BadPlace T) (x_13 T) (x_903 T)) (one_clx (xis_ok (g_BadPrices T) (x_48 T) (x_902 T)) (one_clx (xis_ok (g_BadQuota T) (x_5 T) (x_901 T)) (one_clx (xis_ok (g_BadRacks T) (x_45 T) (x_900 T)) (one_clx (xis_ok (g_BadRecord T) (x_43 T) (x_899 T)) (one_clx (xis_ok (g_BadRun T) (x_41 T) (x_898 T)) (one_clx (xis_ok (g_BadSpread T) (x_39 T) (x_897 T)) (one_clx (xis_ok (g_BadStages T) (x_0 T) (x_896 T)) (one_clx (xis_ok (g_BadStanding T) (x_36 T) (x_895 T)) (one_clx (xis_ok (g_BadText T) (x_15 T) (x_894 T)) (one_clx (xis_ok (g_BadTold T) (x_33 T) (x_893 T)) (one_clx (xis_ok (g_BadWeights T) (x_31 T) (x_892 T)) (one_clx (xis_ok (g_CutOff T) (x_12 T) (x_891 T)) (one_clx (xis_ok (g_NoLots T) (x_28 T) (x_890 T)) (one_clx (xis_ok (g_NoTalk T) (x_14 T) (x_889 T)) (one_clx (xis_ok (g_NotNewest T) (x_25 T) (x_888 T)) (one_clx (xis_ok (g_NotRight T) (x_23 T) (x_887 T)) (one_clx (xis_ok (g_NothingDone T) (x_21 T) (x_886 T)) (one_clx (xis_ok (g_OtherMachines T) (x_19 T) (x_885 T)) no_clx))))))))))))))))))))))))))))))))) no_cls (kits_ok (x_884 T)) (de_var 0)) (da_cons (de_isiY rfl (n_isinstance T) (pe_glob (v := .ref (He.ga K "BadEntries")) rfl (g_BadEntries T) rfl) (.own _) (one_clx (xis_ok (g_BadBook T) (x_3 T) (x_951 T)) (one_clx (xis_ok (g_BadCount T) (x_4 T) (x_950 T)) (one_clx (xis_ok (g_BadCourse T) (x_65 T) (x_949 T)) (one_clx (xis_ok (g_BadDeed T) (x_9 T) (x_948 T)) (one_clx (xis_ok (g_BadEntries T) (x_62 T) (x_947 T)) (one_clx (xis_ok (g_BadFalls T) (x_10 T) (x_946 T)) (one_clx (xis_ok (g_BadFamily T) (x_2 T) (x_945 T)) (one_clx (xis_ok (g_BadHand T) (x_1 T) (x_944 T)) (one_clx (xis_ok (g_BadIndex T) (x_11 T) (x_943 T)) (one_clx (xis_ok (g_BadJournal T) (x_8 T) (x_942 T)) (one_clx (xis_ok (g_BadLeft T) (x_7 T) (x_941 T)) (one_clx (xis_ok (g_BadLog T) (x_54 T) (x_940 T)) (one_clx (xis_ok (g_BadLot T) (x_52 T) (x_939 T)) (one_clx (xis_ok (g_BadMachine T) (x_6 T) (x_938 T)) (one_clx (xis_ok (g_BadPlace T) (x_13 T) (x_937 T)) (one_clx (xis_ok (g_BadPrices T) (x_48 T) (x_936 T)) (one_clx (xis_ok (g_BadQuota T) (x_5 T) (x_935 T)) (one_clx (xis_ok (g_BadRacks T) (x_45 T) (x_934 T)) (one_clx (xis_ok (g_BadRecord T) (x_43 T) (x_933 T)) (one_clx (xis_ok (g_BadRun T) (x_41 T) (x_932 T)) (one_clx (xis_ok (g_BadSpread T) (x_39 T) (x_931 T)) (one_clx (xis_ok (g_BadStages T) (x_0 T) (x_930 T)) (one_clx (xis_ok (g_BadStanding T) (x_36 T) (x_929 T)) (one_clx (xis_ok (g_BadText T) (x_15 T) (x_928 T)) (one_clx (xis_ok (g_BadTold T) (x_33 T) (x_927 T)) (one_clx (xis_ok (g_BadWeights T) (x_31 T) (x_926 T)) (one_clx (xis_ok (g_CutOff T) (x_12 T) (x_925 T)) (one_clx (xis_ok (g_NoLots T) (x_28 T) (x_924 T)) (one_clx (xis_ok (g_NoTalk T) (x_14 T) (x_923 T)) (one_clx (xis_ok (g_NotNewest T) (x_25 T) (x_922 T)) (one_clx (xis_ok (g_NotRight T) (x_23 T) (x_921 T)) (one_clx (xis_ok (g_NothingDone T) (x_21 T) (x_920 T)) (one_clx (xis_ok (g_OtherMachines T) (x_19 T) (x_919 T)) no_clx))))))))))))))))))))))))))))))))) no_cls (kits_ok (x_918 T)) (de_var 0)) da_nil)))))) (dss_cons (ds_set 1 sc_law_last_marks.nd (de_bin od_add (de_var 1) (de_lst (da_cons (de_isiY rfl (n_isinstance T) (pe_glob (v := .ref (He.ga K "BadPrices")) rfl (g_BadPrices T) rfl) (.own _) (one_clx (xis_ok (g_BadBook T) (x_3 T) (x_985 T)) (one_clx (xis_ok (g_BadCount T) (x_4 T) (x_984 T)) (one_clx (xis_ok (g_BadCourse T) (x_65 T) (x_983 T)) (one_clx (xis_ok (g_BadDeed T) (x_9 T) (x_982 T)) (one_clx (xis_ok (g_BadEntries T) (x_62 T) (x_981 T)) (one_clx (xis_ok (g_BadFalls T) (x_10 T) (x_980 T)) (one_clx (xis_ok (g_BadFamily T) (x_2 T) (x_979 T)) (one_clx (xis_ok (g_BadHand T) (x_1 T) (x_978 T)) (one_clx (xis_ok (g_BadIndex T) (x_11 T) (x_977 T)) (one_clx (xis_ok (g_BadJournal T) (x_8 T) (x_976 T)) (one_clx (xis_ok (g_BadLeft T) (x_7 T) (x_975 T)) (one_clx (xis_ok (g_BadLog T) (x_54 T) (x_974 T)) (one_clx (xis_ok (g_BadLot T) (x_52 T) (x_973 T)) (one_clx (xis_ok (g_BadMachine T) (x_6 T) (x_972 T)) (one_clx (xis_ok (g_BadPlace T) (x_13 T) (x_971 T)) (one_clx (xis_ok (g_BadPrices T) (x_48 T) (x_970 T)) (one_clx (xis_ok (g_BadQuota T) (x_5 T) (x_969 T)) (one_clx (xis_ok (g_BadRacks T) (x_45 T) (x_968 T)) (one_clx (xis_ok (g_BadRecord T) (x_43 T) (x_967 T)) (one_clx (xis_ok (g_BadRun T) (x_41 T) (x_966 T)) (one_clx (xis_ok (g_BadSpread T) (x_39 T) (x_965 T)) (one_clx (xis_ok (g_BadStages T) (x_0 T) (x_964 T)) (one_clx (xis_ok (g_BadStanding T) (x_36 T) (x_963 T)) (one_clx (xis_ok (g_BadText T) (x_15 T) (x_962 T)) (one_clx (xis_ok (g_BadTold T) (x_33 T) (x_961 T)) (one_clx (xis_ok (g_BadWeights T) (x_31 T) (x_960 T)) (one_clx (xis_ok (g_CutOff T) (x_12 T) (x_959 T)) (one_clx (xis_ok (g_NoLots T) (x_28 T) (x_958 T)) (one_clx (xis_ok (g_NoTalk T) (x_14 T) (x_957 T)) (one_clx (xis_ok (g_NotNewest T) (x_25 T) (x_956 T)) (one_clx (xis_ok (g_NotRight T) (x_23 T) (x_955 T)) (one_clx (xis_ok (g_NothingDone T) (x_21 T) (x_954 T)) (one_clx (xis_ok (g_OtherMachines T) (x_19 T) (x_953 T)) no_clx))))))))))))))))))))))))))))))))) no_cls (kits_ok (x_952 T)) (de_var 0)) (da_cons (de_isiY rfl (n_isinstance T) (pe_glob (v := .ref (He.ga K "NotRight")) rfl (g_NotRight T) rfl) (.own _) (one_clx (xis_ok (g_BadBook T) (x_3 T) (x_1019 T)) (one_clx (xis_ok (g_BadCount T) (x_4 T) (x_1018 T)) (one_clx (xis_ok (g_BadCourse T) (x_65 T) (x_1017 T)) (one_clx (xis_ok (g_BadDeed T) (x_9 T) (x_1016 T)) (one_clx (xis_ok (g_BadEntries T) (x_62 T) (x_1015 T)) (one_clx (xis_ok (g_BadFalls T) (x_10 T) (x_1014 T)) (one_clx (xis_ok (g_BadFamily T) (x_2 T) (x_1013 T)) (one_clx (xis_ok (g_BadHand T) (x_1 T) (x_1012 T)) (one_clx (xis_ok (g_BadIndex T) (x_11 T) (x_1011 T)) (one_clx (xis_ok (g_BadJournal T) (x_8 T) (x_1010 T)) (one_clx (xis_ok (g_BadLeft T) (x_7 T) (x_1009 T)) (one_clx (xis_ok (g_BadLog T) (x_54 T) (x_1008 T)) (one_clx (xis_ok (g_BadLot T) (x_52 T) (x_1007 T)) (one_clx (xis_ok (g_BadMachine T) (x_6 T) (x_1006 T)) (one_clx (xis_ok (g_BadPlace T) (x_13 T) (x_1005 T)) (one_clx (xis_ok (g_BadPrices T) (x_48 T) (x_1004 T)) (one_clx (xis_ok (g_BadQuota T) (x_5 T) (x_1003 T)) (one_clx (xis_ok (g_BadRacks T) (x_45 T) (x_1002 T)) (one_clx (xis_ok (g_BadRecord T) (x_43 T) (x_1001 T)) (one_clx (xis_ok (g_BadRun T) (x_41 T) (x_1000 T)) (one_clx (xis_ok (g_BadSpread T) (x_39 T) (x_999 T)) (one_clx (xis_ok (g_BadStages T) (x_0 T) (x_998 T)) (one_clx (xis_ok (g_BadStanding T) (x_36 T) (x_997 T)) (one_clx (xis_ok (g_BadText T) (x_15 T) (x_996 T)) (one_clx (xis_ok (g_BadTold T) (x_33 T) (x_995 T)) (one_clx (xis_ok (g_BadWeights T) (x_31 T) (x_994 T)) (one_clx (xis_ok (g_CutOff T) (x_12 T) (x_993 T)) (one_clx (xis_ok (g_NoLots T) (x_28 T) (x_992 T)) (one_clx (xis_ok (g_NoTalk T) (x_14 T) (x_991 T)) (one_clx (xis_ok (g_NotNewest T) (x_25 T) (x_990 T)) (one_clx (xis_ok (g_NotRight T) (x_23 T) (x_989 T)) (one_clx (xis_ok (g_NothingDone T) (x_21 T) (x_988 T)) (one_clx (xis_ok (g_OtherMachines T) (x_19 T) (x_987 T)) no_clx))))))))))))))))))))))))))))))))) no_cls (kits_ok (x_986 T)) (de_var 0)) (da_cons (de_isiY rfl (n_isinstance T) (pe_glob (v := .ref (He.ga K "NotNewest")) rfl (g_NotNewest T) rfl) (.own _) (one_clx (xis_ok (g_BadBook T) (x_3 T) (x_1053 T)) (one_clx (xis_ok (g_BadCount T) (x_4 T) (x_1052 T)) (one_clx (xis_ok (g_BadCourse T) (x_65 T) (x_1051 T)) (one_clx (xis_ok (g_BadDeed T) (x_9 T) (x_1050 T)) (one_clx (xis_ok (g_BadEntries T) (x_62 T) (x_1049 T)) (one_clx (xis_ok (g_BadFalls T) (x_10 T) (x_1048 T)) (one_clx (xis_ok (g_BadFamily T) (x_2 T) (x_1047 T)) (one_clx (xis_ok (g_BadHand T) (x_1 T) (x_1046 T)) (one_clx (xis_ok (g_BadIndex T) (x_11 T) (x_1045 T)) (one_clx (xis_ok (g_BadJournal T) (x_8 T) (x_1044 T)) (one_clx (xis_ok (g_BadLeft T) (x_7 T) (x_1043 T)) (one_clx (xis_ok (g_BadLog T) (x_54 T) (x_1042 T)) (one_clx (xis_ok (g_BadLot T) (x_52 T) (x_1041 T)) (one_clx (xis_ok (g_BadMachine T) (x_6 T) (x_1040 T)) (one_clx (xis_ok (g_BadPlace T) (x_13 T) (x_1039 T)) (one_clx (xis_ok (g_BadPrices T) (x_48 T) (x_1038 T)) (one_clx (xis_ok (g_BadQuota T) (x_5 T) (x_1037 T)) (one_clx (xis_ok (g_BadRacks T) (x_45 T) (x_1036 T)) (one_clx (xis_ok (g_BadRecord T) (x_43 T) (x_1035 T)) (one_clx (xis_ok (g_BadRun T) (x_41 T) (x_1034 T)) (one_clx (xis_ok (g_BadSpread T) (x_39 T) (x_1033 T)) (one_clx (xis_ok (g_BadStages T) (x_0 T) (x_1032 T)) (one_clx (xis_ok (g_BadStanding T) (x_36 T) (x_1031 T)) (one_clx (xis_ok (g_BadText T) (x_15 T) (x_1030 T)) (one_clx (xis_ok (g_BadTold T) (x_33 T) (x_1029 T)) (one_clx (xis_ok (g_BadWeights T) (x_31 T) (x_1028 T)) (one_clx (xis_ok (g_CutOff T) (x_12 T) (x_1027 T)) (one_clx (xis_ok (g_NoLots T) (x_28 T) (x_1026 T)) (one_clx (xis_ok (g_NoTalk T) (x_14 T) (x_1025 T)) (one_clx (xis_ok (g_NotNewest T) (x_25 T) (x_1024 T)) (one_clx (xis_ok (g_NotRight T) (x_23 T) (x_1023 T)) (one_clx (xis_ok (g_NothingDone T) (x_21 T) (x_1022 T)) (one_clx (xis_ok (g_OtherMachines T) (x_19 T) (x_1021 T)) no_clx))))))))))))))))))))))))))))))))) no_cls (kits_ok (x_1020 T)) (de_var 0)) da_nil)))))) (dss_cons (ds_set 1 sc_law_last_marks.nd (de_bin od_add (de_var 1) (de_lst (da_cons (de_isiY rfl (n_isinstance T) (pe_glob (v := .ref (He.ga K "BadRun")) rfl (g_BadRun T) rfl) (.own _) (one_clx (xis_ok (g_BadBook T) (x_3 T) (x_1087 T)) (one_clx (xis_ok (g_BadCount T) (x_4 T) (x_1086 T)) (one_clx (xis_ok (g_BadCourse T) (x_65 T) (x_1085 T)) (one_clx (xis_ok (g_BadDeed T) (x_9 T) (x_1084 T)) (one_clx (xis_ok (g_BadEntries T) (x_62 T) (x_1083 T)) (one_clx (xis_ok (g_BadFalls T) (x_10 T) (x_1082 T)) (one_clx (xis_ok (g_BadFamily T) (x_2 T) (x_1081 T)) (one_clx (xis_ok (g_BadHand T) (x_1 T) (x_1080 T)) (one_clx (xis_ok (g_BadIndex T) (x_11 T) (x_1079 T)) (one_clx (xis_ok (g_BadJournal T) (x_8 T) (x_1078 T)) (one_clx (xis_ok (g_BadLeft T) (x_7 T) (x_1077 T)) (one_clx (xis_ok (g_BadLog T) (x_54 T) (x_1076 T)) (one_clx (xis_ok (g_BadLot T) (x_52 T) (x_1075 T)) (one_clx (xis_ok (g_BadMachine T) (x_6 T) (x_1074 T)) (one_clx (xis_ok (g_BadPlace T) (x_13 T) (x_1073 T)) (one_clx (xis_ok (g_BadPrices T) (x_48 T) (x_1072 T)) (one_clx (xis_ok (g_BadQuota T) (x_5 T) (x_1071 T)) (one_clx (xis_ok (g_BadRacks T) (x_45 T) (x_1070 T)) (one_clx (xis_ok (g_BadRecord T) (x_43 T) (x_1069 T)) (one_clx (xis_ok (g_BadRun T) (x_41 T) (x_1068 T)) (one_clx (xis_ok (g_BadSpread T) (x_39 T) (x_1067 T)) (one_clx (xis_ok (g_BadStages T) (x_0 T) (x_1066 T)) (one_clx (xis_ok (g_BadStanding T) (x_36 T) (x_1065 T)) (one_clx (xis_ok (g_BadText T) (x_15 T) (x_1064 T)) (one_clx (xis_ok (g_BadTold T) (x_33 T) (x_1063 T)) (one_clx (xis_ok (g_BadWeights T) (x_31 T) (x_1062 T)) (one_clx (xis_ok (g_CutOff T) (x_12 T) (x_1061 T)) (one_clx (xis_ok (g_NoLots T) (x_28 T) (x_1060 T)) (one_clx (xis_ok (g_NoTalk T) (x_14 T) (x_1059 T)) (one_clx (xis_ok (g_NotNewest T) (x_25 T) (x_1058 T)) (one_clx (xis_ok (g_NotRight T) (x_23 T) (x_1057 T)) (one_clx (xis_ok (g_NothingDone T) (x_21 T) (x_1056 T)) (one_clx (xis_ok (g_OtherMachines T) (x_19 T) (x_1055 T)) no_clx))))))))))))))))))))))))))))))))) no_cls (kits_ok (x_1054 T)) (de_var 0)) (da_cons (de_isiY rfl (n_isinstance T) (pe_glob (v := .ref (He.ga K "BadSpread")) rfl (g_BadSpread T) rfl) (.own _) (one_clx (xis_ok (g_BadBook T) (x_3 T) (x_1121 T)) (one_clx (xis_ok (g_BadCount T) (x_4 T) (x_1120 T)) (one_clx (xis_ok (g_BadCourse T) (x_65 T) (x_1119 T)) (one_clx (xis_ok (g_BadDeed T) (x_9 T) (x_1118 T)) (one_clx (xis_ok (g_BadEntries T) (x_62 T) (x_1117 T)) (one_clx (xis_ok (g_BadFalls T) (x_10 T) (x_1116 T)) (one_clx (xis_ok (g_BadFamily T) (x_2 T) (x_1115 T)) (one_clx (xis_ok (g_BadHand T) (x_1 T) (x_1114 T)) (one_clx (xis_ok (g_BadIndex T) (x_11 T) (x_1113 T)) (one_clx (xis_ok (g_BadJournal T) (x_8 T) (x_1112 T)) (one_clx (xis_ok (g_BadLeft T) (x_7 T) (x_1111 T)) (one_clx (xis_ok (g_BadLog T) (x_54 T) (x_1110 T)) (one_clx (xis_ok (g_BadLot T) (x_52 T) (x_1109 T)) (one_clx (xis_ok (g_BadMachine T) (x_6 T) (x_1108 T)) (one_clx (xis_ok (g_BadPlace T) (x_13 T) (x_1107 T)) (one_clx (xis_ok (g_BadPrices T) (x_48 T) (x_1106 T)) (one_clx (xis_ok (g_BadQuota T) (x_5 T) (x_1105 T)) (one_clx (xis_ok (g_BadRacks T) (x_45 T) (x_1104 T)) (one_clx (xis_ok (g_BadRecord T) (x_43 T) (x_1103 T)) (one_clx (xis_ok (g_BadRun T) (x_41 T) (x_1102 T)) (one_clx (xis_ok (g_BadSpread T) (x_39 T) (x_1101 T)) (one_clx (xis_ok (g_BadStages T) (x_0 T) (x_1100 T)) (one_clx (xis_ok (g_BadStanding T) (x_36 T) (x_1099 T)) (one_clx (xis_ok (g_BadText T) (x_15 T) (x_1098 T)) (one_clx (xis_ok (g_BadTold T) (x_33 T) (x_1097 T)) (one_clx (xis_ok (g_BadWeights T) (x_31 T) (x_1096 T)) (one_clx (xis_ok (g_CutOff T) (x_12 T) (x_1095 T)) (one_clx (xis_ok (g_NoLots T) (x_28 T) (x_1094 T)) (one_clx (xis_ok (g_NoTalk T) (x_14 T) (x_1093 T)) (one_clx (xis_ok (g_NotNewest T) (x_25 T) (x_1092 T)) (one_clx (xis_ok (g_NotRight T) (x_23 T) (x_1091 T)) (one_clx (xis_ok (g_NothingDone T) (x_21 T) (x_1090 T)) (one_clx (xis_ok (g_OtherMachines T) (x_19 T) (x_1089 T)) no_clx))))))))))))))))))))))))))))))))) no_cls (kits_ok (x_1088 T)) (de_var 0)) (da_cons (de_isiY rfl (n_isinstance T) (pe_glob (v := .ref (He.ga K "NoLots")) rfl (g_NoLots T) rfl) (.own _) (one_clx (xis_ok (g_BadBook T) (x_3 T) (x_1155 T)) (one_clx (xis_ok (g_BadCount T) (x_4 T) (x_1154 T)) (one_clx (xis_ok (g_BadCourse T) (x_65 T) (x_1153 T)) (one_clx (xis_ok (g_BadDeed T) (x_9 T) (x_1152 T)) (one_clx (xis_ok (g_BadEntries T) (x_62 T) (x_1151 T)) (one_clx (xis_ok (g_BadFalls T) (x_10 T) (x_1150 T)) (one_clx (xis_ok (g_BadFamily T) (x_2 T) (x_1149 T)) (one_clx (xis_ok (g_BadHand T) (x_1 T) (x_1148 T)) (one_clx (xis_ok (g_BadIndex T) (x_11 T) (x_1147 T)) (one_clx (xis_ok (g_BadJournal T) (x_8 T) (x_1146 T)) (one_clx (xis_ok (g_BadLeft T) (x_7 T) (x_1145 T)) (one_clx (xis_ok (g_BadLog T) (x_54 T) (x_1144 T)) (one_clx (xis_ok (g_BadLot T) (x_52 T) (x_1143 T)) (one_clx (xis_ok (g_BadMachine T) (x_6 T) (x_1142 T)) (one_clx (xis_ok (g_BadPlace T) (x_13 T) (x_1141 T)) (one_clx (xis_ok (g_BadPrices T) (x_48 T) (x_1140 T)) (one_clx (xis_ok (g_BadQuota T) (x_5 T) (x_1139 T)) (one_clx (xis_ok (g_BadRacks T) (x_45 T) (x_1138 T)) (one_clx (xis_ok (g_BadRecord T) (x_43 T) (x_1137 T)) (one_clx (xis_ok (g_BadRun T) (x_41 T) (x_1136 T)) (one_clx (xis_ok (g_BadSpread T) (x_39 T) (x_1135 T)) (one_clx (xis_ok (g_BadStages T) (x_0 T) (x_1134 T)) (one_clx (xis_ok (g_BadStanding T) (x_36 T) (x_1133 T)) (one_clx (xis_ok (g_BadText T) (x_15 T) (x_1132 T)) (one_clx (xis_ok (g_BadTold T) (x_33 T) (x_1131 T)) (one_clx (xis_ok (g_BadWeights T) (x_31 T) (x_1130 T)) (one_clx (xis_ok (g_CutOff T) (x_12 T) (x_1129 T)) (one_clx (xis_ok (g_NoLots T) (x_28 T) (x_1128 T)) (one_clx (xis_ok (g_NoTalk T) (x_14 T) (x_1127 T)) (one_clx (xis_ok (g_NotNewest T) (x_25 T) (x_1126 T)) (one_clx (xis_ok (g_NotRight T) (x_23 T) (x_1125 T)) (one_clx (xis_ok (g_NothingDone T) (x_21 T) (x_1124 T)) (one_clx (xis_ok (g_OtherMachines T) (x_19 T) (x_1123 T)) no_clx))))))))))))))))))))))))))))))))) no_cls (kits_ok (x_1122 T)) (de_var 0)) da_nil)))))) (dss_one (ds_ret (de_bin od_add (de_var 1) (de_lst (da_cons (de_isiY rfl (n_isinstance T) (pe_glob (v := .ref (He.ga K "BadCourse")) rfl (g_BadCourse T) rfl) (.own _) (one_clx (xis_ok (g_BadBook T) (x_3 T) (x_1189 T)) (one_clx (xis_ok (g_BadCount T) (x_4 T) (x_1188 T)) (one_clx (xis_ok (g_BadCourse T) (x_65 T) (x_1187 T)) (one_clx (xis_ok (g_BadDeed T) (x_9 T) (x_1186 T)) (one_clx (xis_ok (g_BadEntries T) (x_62 T) (x_1185 T)) (one_clx (xis_ok (g_BadFalls T) (x_10 T) (x_1184 T)) (one_clx (xis_ok (g_BadFamily T) (x_2 T) (x_1183 T)) (one_clx (xis_ok (g_BadHand T) (x_1 T) (x_1182 T)) (one_clx (xis_ok (g_BadIndex T) (x_11 T) (x_1181 T)) (one_clx (xis_ok (g_BadJournal T) (x_8 T) (x_1180 T)) (one_clx (xis_ok (g_BadLeft T) (x_7 T) (x_1179 T)) (one_clx (xis_ok (g_BadLog T) (x_54 T) (x_1178 T)) (one_clx (xis_ok (g_BadLot T) (x_52 T) (x_1177 T)) (one_clx (xis_ok (g_BadMachine T) (x_6 T) (x_1176 T)) (one_clx (xis_ok (g_BadPlace T) (x_13 T) (x_1175 T)) (one_clx (xis_ok (g_BadPrices T) (x_48 T) (x_1174 T)) (one_clx (xis_ok (g_BadQuota T) (x_5 T) (x_1173 T)) (one_clx (xis_ok (g_BadRacks T) (x_45 T) (x_1172 T)) (one_clx (xis_ok (g_BadRecord T) (x_43 T) (x_1171 T)) (one_clx (xis_ok (g_BadRun T) (x_41 T) (x_1170 T)) (one_clx (xis_ok (g_BadSpread T) (x_39 T) (x_1169 T)) (one_clx (xis_ok (g_BadStages T) (x_0 T) (x_1168 T)) (one_clx (xis_ok (g_BadStanding T) (x_36 T) (x_1167 T)) (one_clx (xis_ok (g_BadText T) (x_15 T) (x_1166 T)) (one_clx (xis_ok (g_BadTold T) (x_33 T) (x_1165 T)) (one_clx (xis_ok (g_BadWeights T) (x_31 T) (x_1164 T)) (one_clx (xis_ok (g_CutOff T) (x_12 T) (x_1163 T)) (one_clx (xis_ok (g_NoLots T) (x_28 T) (x_1162 T)) (one_clx (xis_ok (g_NoTalk T) (x_14 T) (x_1161 T)) (one_clx (xis_ok (g_NotNewest T) (x_25 T) (x_1160 T)) (one_clx (xis_ok (g_NotRight T) (x_23 T) (x_1159 T)) (one_clx (xis_ok (g_NothingDone T) (x_21 T) (x_1158 T)) (one_clx (xis_ok (g_OtherMachines T) (x_19 T) (x_1157 T)) no_clx))))))))))))))))))))))))))))))))) no_cls (kits_ok (x_1156 T)) (de_var 0)) (da_cons (de_isiY rfl (n_isinstance T) (pe_glob (v := .ref (He.ga K "NothingDone")) rfl (g_NothingDone T) rfl) (.own _) (one_clx (xis_ok (g_BadBook T) (x_3 T) (x_1223 T)) (one_clx (xis_ok (g_BadCount T) (x_4 T) (x_1222 T)) (one_clx (xis_ok (g_BadCourse T) (x_65 T) (x_1221 T)) (one_clx (xis_ok (g_BadDeed T) (x_9 T) (x_1220 T)) (one_clx (xis_ok (g_BadEntries T) (x_62 T) (x_1219 T)) (one_clx (xis_ok (g_BadFalls T) (x_10 T) (x_1218 T)) (one_clx (xis_ok (g_BadFamily T) (x_2 T) (x_1217 T)) (one_clx (xis_ok (g_BadHand T) (x_1 T) (x_1216 T)) (one_clx (xis_ok (g_BadIndex T) (x_11 T) (x_1215 T)) (one_clx (xis_ok (g_BadJournal T) (x_8 T) (x_1214 T)) (one_clx (xis_ok (g_BadLeft T) (x_7 T) (x_1213 T)) (one_clx (xis_ok (g_BadLog T) (x_54 T) (x_1212 T)) (one_clx (xis_ok (g_BadLot T) (x_52 T) (x_1211 T)) (one_clx (xis_ok (g_BadMachine T) (x_6 T) (x_1210 T)) (one_clx (xis_ok (g_BadPlace T) (x_13 T) (x_1209 T)) (one_clx (xis_ok (g_BadPrices T) (x_48 T) (x_1208 T)) (one_clx (xis_ok (g_BadQuota T) (x_5 T) (x_1207 T)) (one_clx (xis_ok (g_BadRacks T) (x_45 T) (x_1206 T)) (one_clx (xis_ok (g_BadRecord T) (x_43 T) (x_1205 T)) (one_clx (xis_ok (g_BadRun T) (x_41 T) (x_1204 T)) (one_clx (xis_ok (g_BadSpread T) (x_39 T) (x_1203 T)) (one_clx (xis_ok (g_BadStages T) (x_0 T) (x_1202 T)) (one_clx (xis_ok (g_BadStanding T) (x_36 T) (x_1201 T)) (one_clx (xis_ok (g_BadText T) (x_15 T) (x_1200 T)) (one_clx (xis_ok (g_BadTold T) (x_33 T) (x_1199 T)) (one_clx (xis_ok (g_BadWeights T) (x_31 T) (x_1198 T)) (one_clx (xis_ok (g_CutOff T) (x_12 T) (x_1197 T)) (one_clx (xis_ok (g_NoLots T) (x_28 T) (x_1196 T)) (one_clx (xis_ok (g_NoTalk T) (x_14 T) (x_1195 T)) (one_clx (xis_ok (g_NotNewest T) (x_25 T) (x_1194 T)) (one_clx (xis_ok (g_NotRight T) (x_23 T) (x_1193 T)) (one_clx (xis_ok (g_NothingDone T) (x_21 T) (x_1192 T)) (one_clx (xis_ok (g_OtherMachines T) (x_19 T) (x_1191 T)) no_clx))))))))))))))))))))))))))))))))) no_cls (kits_ok (x_1190 T)) (de_var 0)) da_nil))))))))))))
  exact R
theorem fd_law : ∃ fd, FunD K "law" "law" (defArgs s_law) (defBody s_law) (defScope s_law) [] [] (He.ga K "law") fd := T.c.z.y.d.def_ 9 (d := d_law) rfl
theorem f_law (TB : TBs K tf mg base) {fd : FuncData} (F : FunD K "law" "law" (defArgs s_law) (defBody s_law) (defScope s_law) [] [] (He.ga K "law") fd) : FnOkG P w K mg base (L2.CX P w) 4 (He.ga K "law") fd ["_law_script"] (spLaw K (tabsOf K tf lamN) m_law) := by
  obtain ⟨fdb, FB⟩ := fd_law_begun T
  have GB : FnOk P w K mg base L2.CX0 1 (He.ga K "_law_begun") fdb ["_law_script"] (spB K w) := ok_begun T FB
  have bB : Binds K fdb ["_law_script"] [] := FB.bindsN fun _ _ _ _ _ _ us hl => match us, hl with | [_], _ => by kernel_rfl
  have R := @law_ofG (tabsOf K tf lamN) P w K mg base _ _ s_law _ fd N_law 3 b_law _ _ _ F sc_law (by decide) (fun cdv A outer s H E hr tk hp hG hcd hC => by
    exact pss_cons (ps_set (i := 1) sc_law.nd rfl (by first | exact Or.inl rfl | exact Or.inr rfl) (pe_call GB (hr.mono (by decide)) rfl (g__law_begun T) FB.kp bB .nil L2.pass0 (pa_cons (pv 0) pa_nil))) (pss_dl fun dl hT => (dss_cons (ds_for hp rfl (di_range1 rfl (n_range T) (da_cons (de_bin od_add de_int (de_callB (cd_min2 rfl) rfl (n_min T) bb_min (da_cons (de_callB cd_len rfl (n_len T) bb_len (da_cons (de_var 0) da_nil)) (da_cons de_int da_nil)))) da_nil)) (dg_name 2 sc_law.nd) (dss_cons (ds_set 3 sc_law.nd (de_call (f_law_pick T) (hr.mono (by decide)) tk (da_cons (de_var 1) (da_cons (de_lst (da_cons de_non (da_cons de_int (da_cons de_int (da_cons de_str (da_cons (de_tup (da_cons de_int (da_cons de_int da_nil))) (da_cons (de_lst (da_cons de_int da_nil)) (da_cons de_bl (da_cons (de_disp (l := [((fun _ => ret (.str "a")), (fun _ => ret (.int 1)))]) (pps_cons de_str de_int pps_nil)) (da_cons (de_un ud_neg de_int) (da_cons de_str (da_cons (de_call (f_law_take T) (hr.mono (by decide)) tk (da_cons (de_var 1) (da_cons (de_bin od_pow de_int de_int) da_nil))) da_nil)))))))))))) da_nil)))) (dss_cons (ds_set 4 sc_law.nd (de_bin od_add (de_call (f_law_with T) (hr.mono (by decide)) tk (da_cons (de_var 3) da_nil)) (de_call0 (f_law_without T) (hr.mono (by decide)) tk))) (dss_cons (ds_if (dt_w (dw_or (dt_cmp od_neS (de_callB (cd_reprLX (x_16 T) hG (hu64 hr)) rfl (n_repr T) bb_repr (da_cons (de_call (f_law_told T) (hr.mono (by decide)) tk (da_cons (de_var 4) da_nil)) da_nil)) (de_callB (cd_reprLX (x_16 T) hG (hu64 hr)) rfl (n_repr T) bb_repr (da_cons (de_bin od_mul (de_lst (da_cons (de_var 3) da_nil)) de_int) da_nil)) (by rfl)) (dw_or1 (dt_cmp od_neS (de_callB (cd_reprLX (x_16 T) hG (hu64 hr)) rfl (n_repr T) bb_repr (da_cons (de_call (f_law_told T) (hr.mono (by decide)) tk (da_cons (de_call (f_law_by_name T) (hr.mono (by decide)) tk (da_cons (de_var 3) da_nil)) da_nil)) da_nil)) (de_callB (cd_reprLX (x_16 T) hG (hu64 hr)) rfl (n_repr T) bb_repr (da_cons (de_bin od_mul (de_lst (da_cons (de_var 3) da_nil)) de_int) da_nil)) (by rfl))))) (dss_one (ds_ret de_bl)) dss_nil) (dss_one (ds_for hp rfl (di_enumA rfl (n_enumerate T) (da_cons (de_var 4) da_nil)) (dg_tup (n := 2) rfl (lenK (lenK lenN)) (dgs_cons (dg_name 5 sc_law.nd) (dgs_cons (dg_name 6 sc_law.nd) dgs_nil))) (dss_cons (ds_if (dt_w (dw_or (dt_not (dt_val (de_isiY rfl (n_isinstance T) (pe_glob (v := .ref (He.ga K "KeepError")) rfl (g_KeepError T) rfl) (.own _) (one_clx (xis_ok (g_BadBook T) (x_3 T) (x_67 T)) (one_clx (xis_ok (g_BadCount T) (x_4 T) (x_66 T)) (one_clx (xis_ok (g_BadCourse T) (x_65 T) (x_64 T)) (one_clx (xis_ok (g_BadDeed T) (x_9 T) (x_63 T)) (one_clx (xis_ok (g_BadEntries T) (x_62 T) (x_61 T)) (one_clx (xis_ok (g_BadFalls T) (x_10 T) (x_60 T)) (one_clx (xis_ok (g_BadFamily T) (x_2 T) (x_59 T)) (one_clx (xis_ok (g_BadHand T) (x_1 T) (x_58 T)) (one_clx (xis_ok (g_BadIndex T) (x_11 T) (x_57 T)) (one_clx (xis_ok (g_BadJournal T) (x_8 T) (x_56 T)) (one_clx (xis_ok (g_BadLeft T) (x_7 T) (x_55 T)) (one_clx (xis_ok (g_BadLog T) (x_54 T) (x_53 T)) (one_clx (xis_ok (g_BadLot T) (x_52 T) (x_51 T)) (one_clx (xis_ok (g_BadMachine T) (x_6 T) (x_50 T)) (one_clx (xis_ok (g_BadPlace T) (x_13 T) (x_49 T)) (one_clx (xis_ok (g_BadPrices T) (x_48 T) (x_47 T)) (one_clx (xis_ok (g_BadQuota T) (x_5 T) (x_46 T)) (one_clx (xis_ok (g_BadRacks T) (x_45 T) (x_44 T)) (one_clx (xis_ok (g_BadRecord T) (x_43 T) (x_42 T)) (one_clx (xis_ok (g_BadRun T) (x_41 T) (x_40 T)) (one_clx (xis_ok (g_BadSpread T) (x_39 T) (x_38 T)) (one_clx (xis_ok (g_BadStages T) (x_0 T) (x_37 T)) (one_clx (xis_ok (g_BadStanding T) (x_36 T) (x_35 T)) (one_clx (xis_ok (g_BadText T) (x_15 T) (x_34 T)) (one_clx (xis_ok (g_BadTold T) (x_33 T) (x_32 T)) (one_clx (xis_ok (g_BadWeights T) (x_31 T) (x_30 T)) (one_clx (xis_ok (g_CutOff T) (x_12 T) (x_29 T)) (one_clx (xis_ok (g_NoLots T) (x_28 T) (x_27 T)) (one_clx (xis_ok (g_NoTalk T) (x_14 T) (x_26 T)) (one_clx (xis_ok (g_NotNewest T) (x_25 T) (x_24 T)) (one_clx (xis_ok (g_NotRight T) (x_23 T) (x_22 T)) (one_clx (xis_ok (g_NothingDone T) (x_21 T) (x_20 T)) (one_clx (xis_ok (g_OtherMachines T) (x_19 T) (x_18 T)) no_clx))))))))))))))))))))))))))))))))) no_cls (kits_ok (x_17 T)) (de_var 6)))) (dw_or1 (dt_not (dt_val (de_isiY rfl (n_isinstance T) (pe_bltn (v := .ty "ValueError") rfl (n_ValueError T) bb_ValueError rfl) (.ty _) (one_clx (xis_ok (g_BadBook T) (x_3 T) (x_101 T)) (one_clx (xis_ok (g_BadCount T) (x_4 T) (x_100 T)) (one_clx (xis_ok (g_BadCourse T) (x_65 T) (x_99 T)) (one_clx (xis_ok (g_BadDeed T) (x_9 T) (x_98 T)) (one_clx (xis_ok (g_BadEntries T) (x_62 T) (x_97 T)) (one_clx (xis_ok (g_BadFalls T) (x_10 T) (x_96 T)) (one_clx (xis_ok (g_BadFamily T) (x_2 T) (x_95 T)) (one_clx (xis_ok (g_BadHand T) (x_1 T) (x_94 T)) (one_clx (xis_ok (g_BadIndex T) (x_11 T) (x_93 T)) (one_clx (xis_ok (g_BadJournal T) (x_8 T) (x_92 T)) (one_clx (xis_ok (g_BadLeft T) (x_7 T) (x_91 T)) (one_clx (xis_ok (g_BadLog T) (x_54 T) (x_90 T)) (one_clx (xis_ok (g_BadLot T) (x_52 T) (x_89 T)) (one_clx (xis_ok (g_BadMachine T) (x_6 T) (x_88 T)) (one_clx (xis_ok (g_BadPlace T) (x_13 T) (x_87 T)) (one_clx (xis_ok (g_BadPrices T) (x_48 T) (x_86 T)) (one_clx (xis_ok (g_BadQuota T) (x_5 T) (x_85 T)) (one_clx (xis_ok (g_BadRacks T) (x_45 T) (x_84 T)) (one_clx (xis_ok (g_BadRecord T) (x_43 T) (x_83 T)) (one_clx (xis_ok (g_BadRun T) (x_41 T) (x_82 T)) (one_clx (xis_ok (g_BadSpread T) (x_39 T) (x_81 T)) (one_clx (xis_ok (g_BadStages T) (x_0 T) (x_80 T)) (one_clx (xis_ok (g_BadStanding T) (x_36 T) (x_79 T)) (one_clx (xis_ok (g_BadText T) (x_15 T) (x_78 T)) (one_clx (xis_ok (g_BadTold T) (x_33 T) (x_77 T)) (one_clx (xis_ok (g_BadWeights T) (x_31 T) (x_76 T)) (one_clx (xis_ok (g_CutOff T) (x_12 T) (x_75 T)) (one_clx (xis_ok (g_NoLots T) (x_28 T) (x_74 T)) (one_clx (xis_ok (g_NoTalk T) (x_14 T) (x_73 T)) (one_clx (xis_ok (g_NotNewest T) (x_25 T) (x_72 T)) (one_clx (xis_ok (g_NotRight T) (x_23 T) (x_71 T)) (one_clx (xis_ok (g_NothingDone T) (x_21 T) (x_70 T)) (one_clx (xis_ok (g_OtherMachines T) (x_19 T) (x_69 T)) no_clx))))))))))))))))))))))))))))))))) no_cls (kits_ok (x_68 T)) (de_var 6))))))) (dss_one (ds_ret de_bl)) dss_nil) (dss_cons (ds_if (dt_cmp (od_ne (hu64 hr)) (de_bin od_add (de_call (f_law_first_marks T) (hr.mono (by decide)) tk (da_cons (de_var 6) da_nil)) (de_call (f_law_last_marks T) (hr.mono (by decide)) tk (da_cons (de_var 6) da_nil))) (de_own (deo_lc (own := [("_law_k", 7)]) rfl sc_law.nd (dim_of (di_range1 rfl (n_range T) (da_cons de_int da_nil))) (blkOk_by (N := N_law) (sc := defScope s_law) (by decide +kernel)) (by decide) (fun _ _ _ _ _ => (dg_name 7 sc_law.nd)) (fun _ _ _ _ _ => dts_nil) (fun _ _ _ _ _ => (de_cmp (od_eq (hu64 hr)) (de_var 7) (de_var 5) (by rfl))))) (by rfl)) (dss_one (ds_ret de_bl)) dss_nil) (dss_one (ds_if (dt_w (dw_and (dt_cmp od_gt (de_var 5) de_int (by rfl)) (dw_and1 (dt_cmp (od_ne (hu64 hr)) (de_callTy (cd_strM (hu64 hr) (one_stM (strM_ok (g_BadCourse T) (x_1240 T)) (one_stM (strM_ok (g_BadEntries T) (x_1239 T)) (one_stM (strM_ok (g_BadLog T) (x_1238 T)) (one_stM (strM_ok (g_BadLot T) (x_1237 T)) (one_stM (strM_ok (g_BadPrices T) (x_1236 T)) (one_stM (strM_ok (g_BadRacks T) (x_1235 T)) (one_stM (strM_ok (g_BadRecord T) (x_1234 T)) (one_stM (strM_ok (g_BadRun T) (x_1233 T)) (one_stM (strM_ok (g_BadSpread T) (x_1232 T)) (one_stM (strM_ok (g_BadStanding T) (x_1231 T)) (one_stM (strM_ok (g_BadTold T) (x_1230 T)) (one_stM (strM_ok (g_BadWeights T) (x_1229 T)) (one_stM (strM_ok (g_NoLots T) (x_1228 T)) (one_stM (strM_ok (g_NotNewest T) (x_1227 T)) (one_stM (strM_ok (g_NotRight T) (x_1226 T)) (one_stM (strM_ok (g_NothingDone T) (x_1225 T)) (one_stM (strM_ok (g_OtherMachines T) (x_1224 T)) no_stM)))))))))))))))))) rfl (n_str T) bb_str (da_cons (de_var 6) da_nil)) de_str (by rfl))))) (dss_one (ds_ret de_bl)) dss_nil)))))))))) (dss_one (ds_ret de_bl)))))
  exact R
end
def Lw : Prop := ∀ ns : List Int, ns.length ≤ 63 → ∃ s, m_law ns (ds0 ns) = some (.ok (.bl true), s)
end K01
open PySem PySem.W PySem.Calls PyProof.Rows in
set_option maxHeartbeats 0 in
theorem K01.holds_of (lw : K01.Lw) : PySem.Challenge.rw_electkeep_k01_errors_made.Holds := by
  w_on; o_law
  refine HandSHeadRun.head_any (r := OpenLaw.row PySem.Challenge.rw_electkeep_k01_errors_made) (q := view (OpenLaw.row PySem.Challenge.rw_electkeep_k01_errors_made).prog [46]) (H := K01.hk) (ob := K01.ob) (M := 30000) (loose := K01.names) (d := HandSHeadRun.topDef (OpenLaw.row PySem.Challenge.rw_electkeep_k01_errors_made).prog 46) (kwd := []) K01.ob_eq
    (by kernel_rfl) (fun s => by kernel_rfl) K01.run (by kernel_rfl) (by kernel_rfl) (by kernel_rfl) (by rfl) (by first | assumption | decide +kernel) (by decide +kernel) ⟨rfl, rfl, rfl, rfl, rfl, by decide +kernel⟩ ?hw ?hc
  case hw => w_witness2
  case hc =>
    refine EK.walk_ofG (l := PySem.Challenge.rw_electkeep_k01_errors_made) (n := 63) (k := 4) (x := "_law_script") (CX := L2.CX (PySem.Challenge.rw_electkeep_k01_errors_made).prog) rfl (by decide) (by kernel_rfl) ⟨rfl, by decide, by decide⟩ ?F (fun _ _ _ _ _ z => by obtain ⟨_, _, _, _, _, _, _, _, _, _, _, _, h⟩ := z; exact h)
    intro w mg fa h Y G hmg0
    obtain ⟨K, KX, c⟩ := Y
    have hmg : mg ("law" : PySem.Str) = some (.ref fa) := by
      have e : (HandSHeadRun.topDef (OpenLaw.row PySem.Challenge.rw_electkeep_k01_errors_made).prog 46).name = ("law" : PySem.Str) := by kernel_rfl
      rw [← e]
      exact hmg0
    have T : K01.Tx h K mg := ⟨c, h, KX, G⟩
    have e := hmg.symm.trans (K01.g_law T)
    cases e
    obtain ⟨fd, F⟩ := K01.fd_law T
    have b := L2.FunD.bindsA (ps := ["_law_script"]) F fun _ _ _ _ _ _ us hl => match us, hl with | [_], _ => by kernel_rfl
    exact ⟨K, fd, K01.tf.map (He.cT K), EK.spLaw K (EK.tabsOf K K01.tf K01.lamN) K01.m_law, KX, fun p hp => by
      obtain ⟨d, hd, rfl⟩ := List.mem_map.mp hp
      exact c.z.empty d hd, fun p hp => by
      obtain ⟨d, hd, rfl⟩ := List.mem_map.mp hp
      exact c.z.out d hd, fun p hp => by
      obtain ⟨d, hd, rfl⟩ := List.mem_map.mp hp
      exact PySem.W.codeHd_of_K KX (c.z.hd d hd), fun s v => b s [v] rfl, fun H a ns hl h1 h2 hS => ⟨a, ns, rfl, EK.tabs_on h1, EK.tabs_on2 h2, hS, hl, lw ns hl, fun _ => rfl⟩, fun base _ _ TB => K01.f_law (w := w) T TB F⟩


namespace EK
open PySem PySem.Spec PyProof.Rows L2

abbrev Lot := List Str
def sLt (x y : Str) : Bool := PySem.W.dataLt (.str x) (.str y)
theorem sLt_irrefl (x : Str) : sLt x x = false := lex_irrefl (O := itemOrd) _
theorem sLt_trans {x y z : Str} (h : sLt x y = true) (h' : sLt y z = true) : sLt x z = true := lex_trans (O := itemOrd) _ _ _ h h'
theorem sLt_total {x y : Str} (h : sLt x y = false) (h' : sLt y x = false) : x = y := by
  have e := lex_total (O := itemOrd) _ _ h h'
  simp only [PySem.W.keyToks, List.cons.injEq, Sum.inr.injEq, and_true] at e
  exact PySem.W.str_of_cps e
theorem sLt_ne {x y : Str} (h : sLt x y = true) : x ≠ y := fun e => by rw [e, sLt_irrefl] at h; cases h

theorem ext_pw {α : Type} {r : α → α → Prop} (irr : ∀ a, ¬ r a a) (tr : ∀ a b c, r a b → r b c → r a c) : ∀ (l l' : List α), l.Pairwise r → l'.Pairwise r → (∀ x, x ∈ l ↔ x ∈ l') → l = l'
  | [], [], _, _, _ => rfl
  | [], y :: _, _, _, h => by have := (h y).mpr (.head _); cases this
  | x :: _, [], _, _, h => by have := (h x).mp (.head _); cases this
  | x :: l, y :: l', p, q, h => by
    obtain ⟨p1, p2⟩ := List.pairwise_cons.mp p
    obtain ⟨q1, q2⟩ := List.pairwise_cons.mp q
    have e : x = y := by
      rcases List.mem_cons.mp ((h x).mp (.head _)) with e | e
      · exact e
      · rcases List.mem_cons.mp ((h y).mpr (.head _)) with e' | e'
        · exact e'.symm
        · exact absurd (tr _ _ _ (p1 _ e') (q1 _ e)) (irr _)
    subst e
    rw [ext_pw irr tr l l' p2 q2 fun z => ?_]
    constructor
    · intro hz
      rcases List.mem_cons.mp ((h z).mp (.tail _ hz)) with e | e
      · subst e; exact absurd (p1 _ hz) (irr _)
      · exact e
    · intro hz
      rcases List.mem_cons.mp ((h z).mpr (.tail _ hz)) with e | e
      · subst e; exact absurd (q1 _ hz) (irr _)
      · exact e

def Asc (x : Lot) : Prop := x.Pairwise fun a b => sLt a b = true
theorem Asc.nodup {x : Lot} (h : Asc x) : x.Nodup := h.imp sLt_ne
theorem Asc.ext {x y : Lot} (h : Asc x) (h' : Asc y) (e : ∀ n, n ∈ x ↔ n ∈ y) : x = y :=
  ext_pw (r := fun a b => sLt a b = true) (fun a q => by rw [sLt_irrefl] at q; cases q) (fun _ _ _ => sLt_trans) x y h h' e
theorem Asc.filter {x : Lot} (h : Asc x) (p : Str → Bool) : Asc (x.filter p) := List.Pairwise.filter p h
theorem Asc.sub {x y : Lot} (h : Asc y) (s : x.Sublist y) : Asc x := List.Pairwise.sublist s h
def inside (a b : Lot) : Bool := a.all fun n => decide (n ∈ b)
theorem inside_iff {a b : Lot} : inside a b = true ↔ ∀ n ∈ a, n ∈ b := by
  unfold inside
  simp
theorem inside_refl (a : Lot) : inside a a = true := inside_iff.mpr fun _ h => h
theorem inside_trans {a b c : Lot} (h : inside a b = true) (h' : inside b c = true) : inside a c = true := inside_iff.mpr fun n q => inside_iff.mp h' n (inside_iff.mp h n q)
theorem Asc.antisymm {a b : Lot} (h : Asc a) (h' : Asc b) (p : inside a b = true) (q : inside b a = true) : a = b := h.ext h' fun n => ⟨inside_iff.mp p n, inside_iff.mp q n⟩
def com (a b : Lot) : Lot := a.filter fun n => decide (n ∈ b)
def dif (x d : Lot) : Lot := x.filter fun n => !decide (n ∈ d)
theorem mem_com {a b : Lot} {n : Str} : n ∈ com a b ↔ n ∈ a ∧ n ∈ b := by unfold com; simp
theorem mem_dif {a b : Lot} {n : Str} : n ∈ dif a b ↔ n ∈ a ∧ n ∉ b := by unfold dif; simp
theorem len_le_of_sub {α : Type} : ∀ {l l' : List α}, l.Nodup → (∀ x ∈ l, x ∈ l') → l.length ≤ l'.length
  | [], _, _, _ => Nat.zero_le _
  | x :: l, l', n, h => by
    obtain ⟨n1, n2⟩ := List.nodup_cons.mp n
    obtain ⟨a, b, e⟩ := List.append_of_mem (h x (.head _))
    have := len_le_of_sub (l := l) (l' := a ++ b) n2 fun y hy => by
      have := h y (.tail _ hy)
      rw [e] at this
      rcases List.mem_append.mp this with q | q
      · exact List.mem_append_left _ q
      · rcases List.mem_cons.mp q with q | q
        · subst q; exact absurd hy n1
        · exact List.mem_append_right _ q
    rw [e]
    simp only [List.length_cons, List.length_append] at this ⊢
    omega

def lotKey (l : Lot) : PyData := .tuple [.int l.length, .tuple (l.map .str)]
def lotLe (a b : Lot) : Bool := PySem.W.dataLe false lotKey a b
def lotLt (a b : Lot) : Bool := PySem.W.dataLt (lotKey a) (lotKey b)
theorem lotLe_eq (a b : Lot) : lotLe a b = !lotLt b a := rfl
theorem toks_strs_inj : ∀ {a b : Lot}, PySem.W.keyToksAll (a.map PyData.str) = PySem.W.keyToksAll (b.map PyData.str) → a = b
  | [], [], _ => rfl
  | [], _ :: _, h => by simp [PySem.W.keyToksAll] at h
  | _ :: _, [], h => by simp [PySem.W.keyToksAll] at h
  | x :: a, y :: b, h => by
    simp only [List.map_cons, PySem.W.keyToksAll, PySem.W.keyToks, List.cons_append, List.nil_append, List.cons.injEq, Sum.inr.injEq, true_and] at h
    rw [PySem.W.str_of_cps h.1, toks_strs_inj h.2]
theorem lotLt_irrefl (a : Lot) : lotLt a a = false := lex_irrefl (O := itemOrd) _
theorem lotLt_trans {a b c : Lot} (h : lotLt a b = true) (h' : lotLt b c = true) : lotLt a c = true := lex_trans (O := itemOrd) _ _ _ h h'
theorem lotLt_total {a b : Lot} (h : lotLt a b = false) (h' : lotLt b a = false) : a = b := by
  have e := lex_total (O := itemOrd) _ _ h h'
  simp only [lotKey, PySem.W.keyToks, PySem.W.keyToksAll, List.cons_append, List.nil_append, List.cons.injEq, Sum.inl.injEq, true_and, List.append_cancel_right_eq] at e
  exact toks_strs_inj e.2
theorem lotLt_len {a b : Lot} (h : a.length < b.length) : lotLt a b = true := by
  unfold lotLt PySem.W.dataLt lotKey
  simp only [PySem.W.keyToks, PySem.W.keyToksAll, List.cons_append, List.nil_append]
  rw [lex_self (O := itemOrd)]
  exact lex_true.mpr (.inl (decide_eq_true (by omega)))
theorem lotLe_total : PySem.W.TotalLe lotLe := (PySem.W.sortLe_total _ _ _ : PySem.W.TotalLe (PySem.W.dataLe false lotKey))
def sortLots (xs : List Lot) : List Lot := xs.mergeSort lotLe
theorem mem_sortLots {xs : List Lot} {x : Lot} : x ∈ sortLots xs ↔ x ∈ xs := List.mem_mergeSort
theorem sortLots_pw (xs : List Lot) : (sortLots xs).Pairwise fun a b => lotLe a b = true := PySem.W.sort_pairwise lotLe_total xs

def stepL (f : List Lot) (l : Lot) : List Lot := if f.any (fun a => inside a l) then f else f ++ [l]
def leastOf (xs : List Lot) : List Lot := (sortLots xs).foldl stepL []
def hol (L : List Lot) (x : Lot) : Bool := L.any fun a => inside a x
theorem hol_iff {L : List Lot} {x : Lot} : hol L x = true ↔ ∃ a ∈ L, inside a x = true := by unfold hol; simp
structure Canon (L : List Lot) : Prop where
  asc : ∀ x ∈ L, Asc x
  ord : L.Pairwise fun a b => lotLt a b = true
  anti : ∀ a ∈ L, ∀ b ∈ L, inside a b = true → a = b
theorem Canon.nodup {L : List Lot} (h : Canon L) : L.Nodup := h.ord.imp fun {a b} h e => by rw [e, lotLt_irrefl] at h; cases h
theorem Canon.ext {L L' : List Lot} (h : Canon L) (h' : Canon L') (e : ∀ x, x ∈ L ∨ x ∈ L' → hol L x = hol L' x) : L = L' := by
  have one : ∀ {L L' : List Lot}, Canon L → Canon L' → (∀ x, x ∈ L ∨ x ∈ L' → hol L x = hol L' x) → ∀ x ∈ L, x ∈ L' := by
    intro L L' h h' e x hx
    have h1 : hol L' x = true := by rw [← e x (.inl hx)]; exact hol_iff.mpr ⟨x, hx, inside_refl x⟩
    obtain ⟨y, hy, i1⟩ := hol_iff.mp h1
    have h2 : hol L y = true := by rw [e y (.inr hy)]; exact hol_iff.mpr ⟨y, hy, inside_refl y⟩
    obtain ⟨z, hz, i2⟩ := hol_iff.mp h2
    have q := h.anti z hz x hx (inside_trans i2 i1)
    subst q
    have := (h.asc z hz).antisymm (h'.asc y hy) i2 i1
    rw [this]; exact hy
  exact ext_pw (r := fun a b => lotLt a b = true) (fun a q => by rw [lotLt_irrefl] at q; cases q) (fun _ _ _ => lotLt_trans) L L' h.ord h'.ord fun x =>
    ⟨one h h' e x, one h' h (fun x hx => (e x hx.symm).symm) x⟩
/-- what the fold keeps -/
structure LInv (p f : List Lot) : Prop where
  sub : ∀ x ∈ f, x ∈ p
  cov : ∀ x ∈ p, ∃ a ∈ f, inside a x = true
  ord : f.Pairwise fun a b => lotLt a b = true
  anti : ∀ a ∈ f, ∀ b ∈ f, inside a b = true → a = b
theorem LInv.step {p f : List Lot} {l : Lot} (h : LInv p f) (ha : ∀ x ∈ p, Asc x) (hl : Asc l) (hp : ∀ x ∈ p, lotLe x l = true) : LInv (p ++ [l]) (stepL f l) := by
  unfold stepL
  cases e : f.any fun a => inside a l with
  | true =>
    rw [if_pos rfl]
    refine ⟨fun x hx => List.mem_append_left _ (h.sub x hx), fun x hx => ?_, h.ord, h.anti⟩
    rcases List.mem_append.mp hx with q | q
    · exact h.cov x q
    · rw [List.mem_singleton.mp q]
      obtain ⟨a, h1, h2⟩ := List.any_eq_true.mp e
      exact ⟨a, h1, h2⟩
  | false =>
    rw [if_neg (by simp)]
    have no : ∀ a ∈ f, inside a l = false := fun a q => by simpa using List.any_eq_false.mp e a q
    have no' : ∀ a ∈ f, inside l a = false := fun a q => by
      cases w : inside l a with
      | false => rfl
      | true =>
        have le := hp a (h.sub a q)
        rw [lotLe_eq] at le
        have len : a.length ≤ l.length := by
          by_cases z : l.length < a.length
          · rw [lotLt_len z] at le; cases le
          · omega
        have len2 : l.length ≤ a.length := len_le_of_sub hl.nodup (inside_iff.mp w)
        have aa := ha a (h.sub a q)
        -- the same length, one within the other
        have : inside a l = true := inside_iff.mpr fun n hn => by
          by_cases z : n ∈ l
          · exact z
          · have := len_le_of_sub (l := n :: l) (l' := a) (List.nodup_cons.mpr ⟨z, hl.nodup⟩) (fun y hy => by
              rcases List.mem_cons.mp hy with rfl | hy
              · exact hn
              · exact inside_iff.mp w y hy)
            simp only [List.length_cons] at this
            omega
        rw [no a q] at this; cases this
    refine ⟨fun x hx => ?_, fun x hx => ?_, ?_, ?_⟩
    · rcases List.mem_append.mp hx with q | q
      · exact List.mem_append_left _ (h.sub x q)
      · exact List.mem_append_right _ q
    · rcases List.mem_append.mp hx with q | q
      · obtain ⟨a, h1, h2⟩ := h.cov x q
        exact ⟨a, List.mem_append_left _ h1, h2⟩
      · exact ⟨l, List.mem_append_right _ (.head _), by rw [List.mem_singleton.mp q]; exact inside_refl l⟩
    · refine List.pairwise_append.mpr ⟨h.ord, List.pairwise_singleton _ _, fun a q b hb => ?_⟩
      rw [List.mem_singleton.mp hb]
      have le := hp a (h.sub a q)
      rw [lotLe_eq] at le
      cases z : lotLt a l with
      | true => rfl
      | false =>
        have := lotLt_total z (by simpa using le)
        subst this
        have := no a q
        rw [inside_refl] at this; cases this
    · intro a ha' b hb i
      rcases List.mem_append.mp ha' with q | q <;> rcases List.mem_append.mp hb with r | r
      · exact h.anti a q b r i
      · rw [List.mem_singleton.mp r, no a q] at i; cases i
      · rw [List.mem_singleton.mp q, no' b r] at i; cases i
      · rw [List.mem_singleton.mp q, List.mem_singleton.mp r]
theorem least_fold : ∀ (xs p f : List Lot), LInv p f → (∀ x ∈ p, Asc x) → (∀ x ∈ xs, Asc x) → (p ++ xs).Pairwise (fun a b => lotLe a b = true) → LInv (p ++ xs) (xs.foldl stepL f)
  | [], p, f, h, _, _, _ => by rw [List.append_nil]; exact h
  | x :: xs, p, f, h, hp, hx, hs => by
    have e : p ++ x :: xs = (p ++ [x]) ++ xs := by simp
    rw [e]
    refine least_fold xs (p ++ [x]) (stepL f x) (h.step hp (hx x (.head _)) fun y hy => ?_) ?_ (fun y hy => hx y (.tail _ hy)) (by rw [← e]; exact hs)
    · exact (List.pairwise_append.mp hs).2.2 y hy x (.head _)
    · intro y hy
      rcases List.mem_append.mp hy with q | q
      · exact hp y q
      · rw [List.mem_singleton.mp q]; exact hx x (.head _)
theorem least_inv {xs : List Lot} (h : ∀ x ∈ xs, Asc x) : LInv (sortLots xs) (leastOf xs) := by
  unfold leastOf
  have := least_fold (sortLots xs) [] [] ⟨fun _ h => h, fun _ h => (nomatch h), .nil, fun _ h => (nomatch h)⟩ (fun _ h => (nomatch h)) (fun x hx => h x (mem_sortLots.mp hx)) (by simpa using sortLots_pw xs)
  simpa using this
theorem leastOf_mem {xs : List Lot} (h : ∀ x ∈ xs, Asc x) {x : Lot} (hx : x ∈ leastOf xs) : x ∈ xs := mem_sortLots.mp ((least_inv h).sub x hx)
theorem leastOf_canon {xs : List Lot} (h : ∀ x ∈ xs, Asc x) : Canon (leastOf xs) := ⟨fun _ hx => h _ (leastOf_mem h hx), (least_inv h).ord, (least_inv h).anti⟩
theorem hol_leastOf {xs : List Lot} (h : ∀ x ∈ xs, Asc x) (y : Lot) : hol (leastOf xs) y = hol xs y := by
  rw [Bool.eq_iff_iff, hol_iff, hol_iff]
  constructor
  · rintro ⟨a, h1, h2⟩
    exact ⟨a, leastOf_mem h h1, h2⟩
  · rintro ⟨a, h1, h2⟩
    obtain ⟨b, h3, h4⟩ := (least_inv h).cov a (mem_sortLots.mpr h1)
    exact ⟨b, h3, inside_trans h4 h2⟩
theorem Canon.least {L : List Lot} (h : Canon L) : leastOf L = L := (leastOf_canon h.asc).ext h fun x _ => hol_leastOf h.asc x

theorem strLe_total : PySem.W.TotalLe (PySem.W.dataLe false PyData.str) := PySem.W.sortLe_total _ _ _
theorem sortS_asc {xs : Lot} (h : xs.Nodup) : Asc (sortS xs) := by
  have s := PySem.W.sort_pairwise strLe_total xs
  have n : (sortS xs).Nodup := (List.mergeSort_perm xs _).nodup_iff.mpr h
  unfold Asc
  have := List.Pairwise.and s n
  refine this.imp fun {a b} ⟨q, ne⟩ => ?_
  have q : (!sLt b a) = true := q
  cases z : sLt a b with
  | true => rfl
  | false => exact absurd (sLt_total z (by simpa using q)) ne
theorem mem_sortS {xs : Lot} {n : Str} : n ∈ sortS xs ↔ n ∈ xs := List.mem_mergeSort
theorem mem_addK {α : Type} [DecidableEq α] {ks : List α} {k x : α} : x ∈ addK ks k ↔ x ∈ ks ∨ x = k := by
  unfold addK
  split
  · rename_i h
    constructor
    · exact .inl
    · rintro (q | q)
      · exact q
      · subst q; exact h
  · simp
theorem mem_foldK {α : Type} [DecidableEq α] : ∀ (xs ks : List α) (x : α), x ∈ xs.foldl addK ks ↔ x ∈ ks ∨ x ∈ xs
  | [], ks, x => by simp
  | y :: xs, ks, x => by
    rw [List.foldl_cons, mem_foldK xs, mem_addK, List.mem_cons, or_assoc]
theorem foldK_nodup {α : Type} [DecidableEq α] : ∀ (xs ks : List α), ks.Nodup → (xs.foldl addK ks).Nodup
  | [], _, h => h
  | y :: xs, ks, h => foldK_nodup xs _ (addK_nodup h)
theorem mem_dedupK {α : Type} [DecidableEq α] {xs : List α} {x : α} : x ∈ dedupK xs ↔ x ∈ xs := by
  unfold dedupK
  rw [mem_foldK]
  simp
theorem dedupK_nodup {α : Type} [DecidableEq α] (xs : List α) : (dedupK xs).Nodup := foldK_nodup xs [] .nil
def mrg (a b : Lot) : Lot := sortS (dedupK (a ++ b))
theorem mrg_asc (a b : Lot) : Asc (mrg a b) := sortS_asc (dedupK_nodup _)
theorem mem_mrg {a b : Lot} {n : Str} : n ∈ mrg a b ↔ n ∈ a ∨ n ∈ b := by unfold mrg; rw [mem_sortS, mem_dedupK, List.mem_append]
def subsF (ms : Lot) (f : List Lot) : List Lot := ms.foldl (fun f n => f ++ f.map (· ++ [n])) f
def allLots (ms : Lot) : List Lot := sortLots (subsF ms [[]])
theorem mem_subsF : ∀ (ms : Lot) (f : List Lot) (x : Lot), x ∈ subsF ms f ↔ ∃ a ∈ f, ∃ s, s.Sublist ms ∧ x = a ++ s
  | [], f, x => by simp [subsF]
  | n :: ms, f, x => by
    have : subsF (n :: ms) f = subsF ms (f ++ f.map (· ++ [n])) := rfl
    rw [this, mem_subsF ms]
    constructor
    · rintro ⟨a, ha, s, hs, rfl⟩
      rcases List.mem_append.mp ha with q | q
      · exact ⟨a, q, s, hs.cons _, rfl⟩
      · obtain ⟨b, hb, rfl⟩ := List.mem_map.mp q
        exact ⟨b, hb, n :: s, hs.cons_cons _, by simp⟩
    · rintro ⟨a, ha, s, hs, rfl⟩
      cases hs with
      | cons _ hs => exact ⟨a, List.mem_append_left _ ha, s, hs, rfl⟩
      | cons_cons _ hs => exact ⟨a ++ [n], List.mem_append_right _ (List.mem_map.mpr ⟨a, ha, rfl⟩), _, hs, by simp⟩
theorem subsF_len : ∀ (ms : Lot) (f : List Lot), (subsF ms f).length = 2 ^ ms.length * f.length
  | [], f => by simp [subsF]
  | n :: ms, f => by
    have : subsF (n :: ms) f = subsF ms (f ++ f.map (· ++ [n])) := rfl
    rw [this, subsF_len ms, List.length_append, List.length_map, List.length_cons, Nat.pow_succ, Nat.mul_assoc]
    congr 1
    omega
/-- a lot of some machines -/
structure LotOf (ms x : Lot) : Prop where
  asc : Asc x
  sub : ∀ n ∈ x, n ∈ ms
theorem LotOf.eq {ms x : Lot} (h : LotOf ms x) (hm : Asc ms) : x = ms.filter fun n => decide (n ∈ x) := h.asc.ext (hm.filter _) fun n => by
  rw [List.mem_filter]
  simp only [decide_eq_true_eq]
  exact ⟨fun q => ⟨h.sub n q, q⟩, fun q => q.2⟩
theorem LotOf.sublist {ms x : Lot} (h : LotOf ms x) (hm : Asc ms) : x.Sublist ms := by
  rw [h.eq hm]
  exact List.filter_sublist
theorem mem_allLots {ms x : Lot} (hm : Asc ms) : x ∈ allLots ms ↔ LotOf ms x := by
  unfold allLots
  rw [mem_sortLots, mem_subsF]
  constructor
  · rintro ⟨a, ha, s, hs, rfl⟩
    rw [List.mem_singleton.mp ha, List.nil_append]
    exact ⟨hm.sub hs, fun n hn => hs.subset hn⟩
  · intro h
    exact ⟨[], .head _, x, h.sublist hm, rfl⟩
def andL (A B : List Lot) : List Lot := leastOf (A.flatMap fun a => B.map fun b => mrg a b)
def orL (A B : List Lot) : List Lot := leastOf (A ++ B)
def notL (ms : Lot) (A : List Lot) : List Lot := leastOf ((allLots ms).filter fun l => A.all fun a => !decide (com l a = []))
def woutL (A : List Lot) (d : Lot) : List Lot := leastOf (A.filter fun a => decide (com a d = []))
/-- hol looks at the names that count alone -/
theorem hol_congr {ms : Lot} {A : List Lot} (hA : ∀ a ∈ A, LotOf ms a) {x y : Lot} (h : ∀ n ∈ ms, n ∈ x ↔ n ∈ y) : hol A x = hol A y := by
  rw [Bool.eq_iff_iff, hol_iff, hol_iff]
  constructor
  · rintro ⟨a, ha, i⟩
    exact ⟨a, ha, inside_iff.mpr fun n q => (h n ((hA a ha).sub n q)).mp (inside_iff.mp i n q)⟩
  · rintro ⟨a, ha, i⟩
    exact ⟨a, ha, inside_iff.mpr fun n q => (h n ((hA a ha).sub n q)).mpr (inside_iff.mp i n q)⟩
structure FamL (ms : Lot) (A : List Lot) : Prop where
  ma : Asc ms
  can : Canon A
  lot : ∀ a ∈ A, LotOf ms a
theorem FamL.ext {ms : Lot} {A B : List Lot} (h : FamL ms A) (h' : FamL ms B) (e : ∀ x, LotOf ms x → hol A x = hol B x) : A = B := h.can.ext h'.can fun x hx => e x (hx.elim (h.lot x) (h'.lot x))
theorem FamL.of {ms : Lot} {xs : List Lot} (hm : Asc ms) (h : ∀ x ∈ xs, LotOf ms x) : FamL ms (leastOf xs) :=
  ⟨hm, leastOf_canon fun x q => (h x q).asc, fun x q => h x (leastOf_mem (fun x q => (h x q).asc) q)⟩
theorem FamL.and {ms : Lot} {A B : List Lot} (h : FamL ms A) (h' : FamL ms B) : FamL ms (andL A B) := FamL.of h.ma fun x q => by
  obtain ⟨a, ha, r⟩ := List.mem_flatMap.mp q
  obtain ⟨b, hb, rfl⟩ := List.mem_map.mp r
  exact ⟨mrg_asc a b, fun n z => (mem_mrg.mp z).elim ((h.lot a ha).sub n) ((h'.lot b hb).sub n)⟩
theorem FamL.or {ms : Lot} {A B : List Lot} (h : FamL ms A) (h' : FamL ms B) : FamL ms (orL A B) := FamL.of h.ma fun x q => (List.mem_append.mp q).elim (h.lot x) (h'.lot x)
theorem FamL.not {ms : Lot} {A : List Lot} (h : FamL ms A) : FamL ms (notL ms A) := FamL.of h.ma fun x q => (mem_allLots h.ma).mp (List.mem_filter.mp q).1
theorem LotOf.dif {ms x : Lot} (h : LotOf ms x) (d : Lot) : LotOf ms (EK.dif x d) := ⟨h.asc.filter _, fun n q => h.sub n (mem_dif.mp q).1⟩
theorem LotOf.all {ms : Lot} (h : Asc ms) : LotOf ms ms := ⟨h, fun _ q => q⟩
/-- not too many lots -/
theorem FamL.len {ms : Lot} {A : List Lot} (h : FamL ms A) (hn : ms ≠ []) : A.length ≤ 2 ^ (ms.length - 1) := by
  cases ms with
  | nil => exact absurd rfl hn
  | cons m r =>
    have nd : (A.map fun a => EK.dif a [m]).Nodup := by
      refine (List.pairwise_map).mpr ?_
      refine (List.Pairwise.and_mem.mp h.can.nodup).imp fun {a b} ⟨ha, hb, ne⟩ e => ne ?_
      have key : ∀ n, n ≠ m → (n ∈ a ↔ n ∈ b) := fun n q => by
        have := congrArg (fun z => n ∈ z) e
        simp only [mem_dif, List.mem_singleton, q, not_false_iff, and_true] at this
        exact iff_of_eq this
      by_cases hm : m ∈ a
      · refine (h.can.anti b hb a ha (inside_iff.mpr fun n q => ?_)).symm
        by_cases z : n = m
        · rw [z]; exact hm
        · exact (key n z).mpr q
      · refine h.can.anti a ha b hb (inside_iff.mpr fun n q => ?_)
        by_cases z : n = m
        · rw [z] at q; exact absurd q hm
        · exact (key n z).mp q
    have := len_le_of_sub (l' := subsF r [[]]) nd fun x hx => by
      obtain ⟨a, ha, rfl⟩ := List.mem_map.mp hx
      refine (mem_subsF r [[]] _).mpr ⟨[], .head _, _, LotOf.sublist (ms := r) ⟨(h.lot a ha).asc.filter _, fun n q => ?_⟩ (List.pairwise_cons.mp h.ma).2, rfl⟩
      obtain ⟨q1, q2⟩ := mem_dif.mp q
      rcases List.mem_cons.mp ((h.lot a ha).sub n q1) with z | z
      · exact absurd (List.mem_singleton.mpr z) q2
      · exact z
    rw [List.length_map, subsF_len] at this
    simpa using this
end EK


namespace EK
open PySem PySem.Spec PyProof.Rows L2

structure Shp (p : PyData) (n : Nat) : Prop where
  lay : p.canLay0 = true
  dep : p.depth ≤ n
theorem Shp.shaped {p : PyData} {n : Nat} (h : Shp p n) (l : n ≤ 64) : SeqAt.shaped p = true := by
  unfold SeqAt.shaped
  rw [h.lay, Bool.true_and]
  exact decide_eq_true (Nat.le_trans h.dep l)
theorem Shp.mono {p : PyData} {n k : Nat} (h : Shp p n) (l : n ≤ k) : Shp p k := ⟨h.lay, Nat.le_trans h.dep l⟩
theorem Shp.int (i : Int) : Shp (.int i) 0 := ⟨by simp [PyData.canLay0], by simp [PyData.depth]⟩
theorem Shp.bool (i : Bool) : Shp (.bool i) 0 := ⟨by simp [PyData.canLay0], by simp [PyData.depth]⟩
theorem Shp.none : Shp .none 0 := ⟨by simp [PyData.canLay0], by simp [PyData.depth]⟩
theorem Shp.str {x : Str} (h : PyData.strOk x = true) : Shp (.str x) 0 := ⟨by simpa [PyData.canLay0] using h, by simp [PyData.depth]⟩
theorem Shp.all {n : Nat} : ∀ {ps : List PyData}, (∀ p ∈ ps, Shp p n) → PyData.canLayAll0 ps = true ∧ PyData.depthAll ps ≤ n
  | [], _ => ⟨by simp [PyData.canLayAll0], by simp [PyData.depthAll]⟩
  | p :: ps, h => by
    have a := h p (.head _)
    have b := Shp.all fun q hq => h q (.tail _ hq)
    refine ⟨by rw [PyData.canLayAll0, a.lay, b.1]; rfl, ?_⟩
    rw [PyData.depthAll]
    exact Nat.max_le.mpr ⟨a.dep, b.2⟩
theorem Shp.tuple {n : Nat} {ps : List PyData} (h : ∀ p ∈ ps, Shp p n) : Shp (.tuple ps) (n + 1) :=
  ⟨by rw [PyData.canLay0]; exact (Shp.all h).1, by rw [PyData.depth]; exact Nat.succ_le_succ (Shp.all h).2⟩
theorem Shp.list {n : Nat} {ps : List PyData} (h : ∀ p ∈ ps, Shp p n) : Shp (.list ps) (n + 1) :=
  ⟨by rw [PyData.canLay0]; exact (Shp.all h).1, by rw [PyData.depth]; exact Nat.succ_le_succ (Shp.all h).2⟩
def EqF {α : Type} [DecidableEq α] (f : α → PyData) : Prop := ∀ a b, PyData.eqv (f a) (f b) = decide (a = b)
theorem EqF.str : EqF PyData.str := fun a b => by
  simp only [PyData.eqv]
  by_cases h : a = b
  · subst h; simp
  · simp [h]
theorem EqF.int : EqF PyData.int := fun a b => by
  simp only [PyData.eqv]
  by_cases h : a = b
  · subst h; simp
  · simp [h]
theorem EqF.bool : EqF PyData.bool := fun a b => by
  simp only [PyData.eqv]
  cases a <;> cases b <;> rfl
theorem EqF.all {α : Type} [DecidableEq α] {f : α → PyData} (h : EqF f) : ∀ a b : List α, PyData.eqvAll (a.map f) (b.map f) = decide (a = b)
  | [], [] => by simp [PyData.eqvAll]
  | [], _ :: _ => by simp [PyData.eqvAll]
  | _ :: _, [] => by simp [PyData.eqvAll]
  | x :: a, y :: b => by
    rw [List.map_cons, List.map_cons, PyData.eqvAll, h x y, EqF.all h a b]
    by_cases p : x = y <;> by_cases q : a = b <;> simp [p, q]
theorem EqF.tuple {α : Type} [DecidableEq α] {f : α → PyData} (h : EqF f) : EqF (fun xs : List α => PyData.tuple (xs.map f)) := fun a b => by
  simp only [PyData.eqv]
  exact h.all a b
theorem EqF.list {α : Type} [DecidableEq α] {f : α → PyData} (h : EqF f) : EqF (fun xs : List α => PyData.list (xs.map f)) := fun a b => by
  simp only [PyData.eqv]
  exact h.all a b
theorem toPs_map {α : Type} {g : α → D} {f : α → PyData} : ∀ (xs : List α), (∀ x ∈ xs, toP (g x) = some (f x)) → toPs (xs.map g) = some (xs.map f)
  | [], _ => rfl
  | x :: xs, h => by
    rw [List.map_cons, toPs, h x (.head _), Option.bind_some, toPs_map xs fun y hy => h y (.tail _ hy)]
    rfl
def eL (x : Lot) : D := .tup (x.map D.str)
def pL (x : Lot) : PyData := .tuple (x.map .str)
def NOk (x : Lot) : Prop := ∀ n ∈ x, PyData.strOk n = true
theorem toP_eL (x : Lot) : toP (eL x) = some (pL x) := by
  unfold eL pL
  rw [toP, toPs_map x fun _ _ => by rw [toP]]
  rfl
theorem shp_pL {x : Lot} (h : NOk x) : Shp (pL x) 1 := Shp.tuple fun p hp => by
  obtain ⟨n, hn, rfl⟩ := List.mem_map.mp hp
  exact Shp.str (h n hn)
def eLs (xs : List Lot) : D := .lst (xs.map eL)
def pLs (xs : List Lot) : PyData := .list (xs.map pL)
def eLK (l : Lot) : D := .tup [.int l.length, eL l]
end EK


namespace EK
open PySem PySem.Spec PyProof.Rows L2 EKL
end EK


namespace EK
open PySem PySem.Spec PyProof.Rows L2 EKL
structure OkN (n : Str) : Prop where
  ok : PyData.strOk n = true
  nm : m_is_name [.str n] = ret (.bl true)
  len : n.length ≤ 6
def seqD (t : Bool) (xs : List D) : D := if t then .tup xs else .lst xs
theorem lenD_seqD (t : Bool) (xs : List D) : lenD [seqD t xs] = some (.int (xs.length : Int)) := by cases t <;> rfl
def isLotB (ms l : Lot) : Bool := l.all (fun n => decide (n ∈ ms)) && (l.zip (l.drop 1)).all fun p => sLt p.1 p.2
def fam (ms : Lot) (A : List Lot) : D := .obj "Family" ["own_machines", "own_least"] [eL ms, eLs A]
structure Fam (ms : Lot) (A : List Lot) : Prop extends FamL ms A where
  h1 : 1 ≤ ms.length
  h5 : ms.length ≤ 5
  nm : ∀ n ∈ ms, OkN n
theorem Fam.with {ms : Lot} {A B : List Lot} (h : Fam ms A) (h' : FamL ms B) : Fam ms B := ⟨h', h.h1, h.h5, h.nm⟩
theorem Fam.seq {ms : Lot} {A : List Lot} (h : Fam ms A) : eL ms = seqD true (ms.map D.str) := rfl
def narL (A B : List Lot) : Bool := A.all fun a => hol B a
end EK


namespace EK
open PySem PySem.Spec PyProof.Rows L2 EKL
/-- from a state -/
def Run {α : Type} (s : DS) (m : M α) (P : α → DS → Prop) : Prop := ∃ a s', m s = some (.ok a, s') ∧ P a s'
theorem Run.ret {α : Type} {s : DS} {a : α} {P : α → DS → Prop} (h : P a s) : Run s (EK.ret a) P := ⟨a, s, rfl, h⟩
theorem Run.bnd {α β : Type} {s : DS} {m : M α} {k : α → M β} {P : α → DS → Prop} {Q : β → DS → Prop} (h : Run s m P) (H : ∀ a s', P a s' → Run s' (k a) Q) : Run s (EK.bnd m k) Q := by
  obtain ⟨a, s1, e, p⟩ := h
  obtain ⟨b, s2, e2, q⟩ := H a s1 p
  refine ⟨b, s2, ?_, q⟩
  unfold EK.bnd
  rw [e]
  exact e2
theorem Run.eq {α β : Type} {s : DS} {a : α} {m : M α} {k : α → M β} {P : β → DS → Prop} (e : m s = some (.ok a, s)) (h : Run s (k a) P) : Run s (EK.bnd m k) P := by
  obtain ⟨b, s2, e2, q⟩ := h
  refine ⟨b, s2, ?_, q⟩
  unfold EK.bnd
  rw [e]
  exact e2
theorem Run.imp {α : Type} {s : DS} {m : M α} {P Q : α → DS → Prop} (h : Run s m P) (H : ∀ a s', P a s' → Q a s') : Run s m Q := by
  obtain ⟨a, s1, e, p⟩ := h
  exact ⟨a, s1, e, H a s1 p⟩
/-- a loop that leaves the state -/
theorem Run.forI {α : Type} {s : DS} (enc : α → D) (I : Sls → Prop) {a : SG} {b : SS} : ∀ (xs : List α) (G : Sls), I G →
    (∀ x ∈ xs, ∀ G, I G → ∃ G1, a G (enc x) = some G1 ∧ Run s (b G1) fun o s' => ∃ G2, o = .next G2 ∧ I G2 ∧ s' = s) → Run s (forM a b (xs.map enc) G) fun o s' => ∃ G2, o = .next G2 ∧ I G2 ∧ s' = s
  | [], G, h, _ => Run.ret ⟨G, rfl, h, rfl⟩
  | x :: xs, G, h, H => by
    obtain ⟨G1, e1, t⟩ := H x (.head _) G h
    rw [List.map_cons, forM, e1, ofO_some, bnd_ret]
    refine Run.bnd t fun o s' ⟨G2, e2, i, e3⟩ => ?_
    subst e2; subst e3
    exact Run.forI enc I xs G2 i fun y hy => H y (.tail _ hy)
theorem mulD_l {i j : Int} (h : -(2 ^ 64) < i ∧ i < 2 ^ 64) : mulD (.int i) (.int j) = some (.int (i * j)) := by
  show mulI (.int i) (.int j) = _
  unfold mulI iopC
  simp only
  rw [if_pos (decide_eq_true (.inl h))]
theorem mulD_r {i j : Int} (h : -(2 ^ 64) < j ∧ j < 2 ^ 64) : mulD (.int i) (.int j) = some (.int (i * j)) := by
  show mulI (.int i) (.int j) = _
  unfold mulI iopC
  simp only
  rw [if_pos (decide_eq_true (.inr h))]
theorem fdivD_of {i j : Int} (h : 0 < j ∧ j < 1073741824) : fdivD (.int i) (.int j) = some (.int (i / j)) := by
  unfold fdivD iopC
  simp only
  rw [if_pos (decide_eq_true h)]
theorem modD_of {i j : Int} (h : 0 < j) : modD (.int i) (.int j) = some (.int (i % j)) := by
  unfold modD iopC
  simp only
  rw [if_pos (decide_eq_true h)]
theorem powD_of {i j : Int} (h : 0 ≤ j ∧ j ≤ 1000000 ∧ i.natAbs < 2 ^ 64) : powD (.int i) (.int j) = some (.int (i ^ j.toNat)) := by
  unfold powD iopC
  simp only
  rw [if_pos (decide_eq_true h)]
theorem mixed_run {s : DS} (o : OkS s) (l : s.turn + 1 ≤ LIM) : Run s (m_law_mixed [.drw]) fun d s' => (∃ i, d = .int i ∧ 0 ≤ i) ∧ s' = { s with turn := s.turn + 1 } := by
  have ht := o.t
  unfold LIM at l
  simp! [m_law_mixed, b_law_mixed, gDr, sDr, drwAt]
  refine Run.eq (a := .int s.turn) rfl ?_
  simp! []
  refine Run.bnd (P := fun o s' => o = .next [some (.fz .drw), some (.fz (.int (s.turn + 1))), some (.fz (.int 0)), none, none, none] ∧ s' = { s with turn := s.turn + 1 }) ⟨_, _, rfl, rfl, rfl⟩ ?_
  rintro a s' ⟨rfl, rfl⟩
  simp! []
  rw [show [D.int 2147483647, D.int 2147483629, D.int 2147483587, D.int 2147483579] = ([2147483647, 2147483629, 2147483587, 2147483579] : List Int).map D.int from rfl]
  refine Run.bnd (Run.forI D.int (fun G => ∃ f u v w, 0 ≤ f ∧ G = [some (.fz .drw), some (.fz (.int (s.turn + 1))), some (.fz (.int f)), u, v, w]) _ _ ⟨0, none, none, none, by decide, rfl⟩ ?_) ?_
  · rintro p hp G ⟨f, u, v, w, hf, rfl⟩
    have hp : 0 < p ∧ p < 2147483648 := by
      simp only [List.mem_cons, List.not_mem_nil, or_false] at hp
      omega
    refine ⟨_, rfl, ?_⟩
    simp! [mulD_l (i := 40014) (j := s.turn + 1) (by omega), fdivD_of (i := p) (j := 19) (by omega), sForC, drwAt]
    refine Run.bnd (Run.forI D.int (fun G => ∃ b w, 0 ≤ b ∧ b < 2 ^ 63 ∧ G = [some (.fz .drw), some (.fz (.int (s.turn + 1))), some (.fz (.int f)), some (.fz (.int p)), some (.fz (.int b)), w]) _ _ ⟨40014 * (s.turn + 1) + p / 19, w, by omega, by omega, rfl⟩ ?_) ?_
    · rintro c hc G ⟨b, w, hb0, hb, rfl⟩
      refine ⟨_, rfl, ?_⟩
      simp! [mulD_r (i := b) (j := 48271) (by omega), modD_of hp.1]
      exact Run.ret ⟨_, rfl, ⟨_, _, Int.emod_nonneg _ (by omega), Int.lt_trans (Int.emod_lt_of_pos _ hp.1) (by omega), rfl⟩, rfl⟩
    · rintro a s' ⟨G2, rfl, ⟨b, w, hb0, hb, rfl⟩, rfl⟩
      simp! [mulD_r (i := f) (j := 2147483647) (by omega), powD_of (i := b) (j := 5) ⟨by omega, by omega, by omega⟩, modD_of hp.1]
      refine Run.ret ⟨_, rfl, ⟨_, _, _, _, ?_, rfl⟩, rfl⟩
      have := Int.emod_nonneg (b ^ (5 : Int).toNat) (show p ≠ 0 by omega)
      omega
  · rintro a s' ⟨G2, rfl, ⟨f, u, v, w, hf, rfl⟩, rfl⟩
    simp! []
    exact Run.ret ⟨⟨f, rfl, hf⟩, rfl⟩
theorem take_tr {k : Int} (h0 : 0 < k) (h1 : k < 1073741824) : Tr 1 (m_law_take [.drw, .int k]) fun d => ∃ i : Nat, d = .int i ∧ (i : Int) < k := by
  intro s o l
  have l' : s.turn + 1 ≤ LIM := l
  have key : Run s (m_law_take [.drw, .int k]) fun d s' => (∃ i : Nat, d = .int i ∧ (i : Int) < k) ∧ OkS s' ∧ s'.turn ≤ s.turn + 1 := by
    simp only [m_law_take, b_law_take, runB, startG, List.map_cons, List.map_nil, List.length_cons, List.length_nil, Nat.reduceAdd, Nat.reduceSub, List.replicate, List.cons_append, List.nil_append]
    rw [sSeq, bnd_assoc]
    refine Run.bnd (P := fun o s' => o = .next [some (.fz .drw), some (.fz (.int k)), none] ∧ OkS s' ∧ s'.turn ≤ s.turn + 1) ?_ ?_
    · simp! [gDr, sDr, drwAt]
      refine Run.eq (a := .int s.rest) rfl ?_
      simp! []
      split
      · refine Run.eq (a := decide (s.wide ≠ [])) rfl ?_
        cases hw : s.wide with
        | nil =>
          simp! [ne_eq, not_true_eq_false, decide_false]
          refine Run.bnd (mixed_run o l') ?_
          rintro a s' ⟨⟨i, rfl, hi⟩, rfl⟩
          exact ⟨_, _, rfl, rfl, ⟨o.w, o.c, hi, by have := o.t; show 0 ≤ s.turn + 1; omega⟩, by show s.turn + 1 ≤ _; omega⟩
        | cons x r =>
          simp! [ne_eq, List.cons_ne_nil, reduceCtorEq, not_false_eq_true]
          refine Run.bnd (P := fun d s' => d = .int x ∧ s' = { s with wide := r }) ⟨.int x, { s with wide := r }, by unfold popM; rw [hw], rfl, rfl⟩ ?_
          rintro a s' ⟨rfl, rfl⟩
          have hx := o.w x (by rw [hw]; exact .head _)
          exact ⟨_, _, rfl, rfl, ⟨fun y hy => o.w y (by rw [hw]; exact .tail _ hy), o.c, hx, o.t⟩, by show s.turn ≤ _; omega⟩
      · exact Run.ret ⟨rfl, o, by omega⟩
    · rintro a s' ⟨rfl, o', t'⟩
      simp! [gDr, sDr, drwAt]
      refine Run.eq (a := .int s'.rest) rfl ?_
      simp! [modD_of h0]
      refine Run.eq (a := .int s'.rest) rfl ?_
      simp! [fdivD_of ⟨h0, h1⟩]
      refine Run.bnd (P := fun o s'' => o = .next [some (.fz .drw), some (.fz (.int k)), some (.fz (.int (s'.rest % k)))] ∧ s'' = { s' with rest := s'.rest / k }) ⟨_, _, rfl, rfl, rfl⟩ ?_
      rintro a s'' ⟨rfl, rfl⟩
      simp! []
      have a0 := Int.emod_nonneg s'.rest (show k ≠ 0 by omega)
      have a1 := Int.emod_lt_of_pos s'.rest h0
      have a2 := Int.ediv_nonneg o'.r (show 0 ≤ k by omega)
      exact Run.ret ⟨⟨(s'.rest % k).toNat, by rw [Int.toNat_of_nonneg a0], by omega⟩, ⟨o'.w, o'.c, a2, o'.t⟩, t'⟩
  obtain ⟨d, s', e, h1, h2, h3⟩ := key
  exact ⟨d, s', e, h2, h3, h1⟩
end EK


namespace EK
open PySem PySem.Spec PyProof.Rows L2 EKL
theorem atI_nat {α : Type} {xs : List α} {i : Nat} (h : i < xs.length) : atI xs (i : Int) = some xs[i] := by
  unfold atI ixN
  rw [if_pos (by omega), if_pos (by omega), Option.bind_some, Int.toNat_natCast, List.getElem?_eq_getElem h]
theorem ixD_seqD {t : Bool} {xs : List D} {i : Nat} (h : i < xs.length) : ixD (seqD t xs) (.int (i : Int)) = some xs[i] := by
  cases t <;> exact atI_nat h
theorem pick_tr (t : Bool) {xs : List D} (h0 : xs ≠ []) (h1 : xs.length < 1073741824) : Tr 1 (m_law_pick [.drw, seqD t xs]) fun y => y ∈ xs := by
  simp! [m_law_pick, b_law_pick, lenD_seqD]
  have hp : 0 < xs.length := List.length_pos_iff.mpr h0
  refine Tr.le (Tr.bnd (take_tr (by omega) (by omega)) (j := 0) fun a ⟨i, e, hi⟩ => ?_) (by omega)
  subst e
  have hi' : i < xs.length := by omega
  simp! [ixD_seqD hi']
  exact Tr.ret (List.getElem_mem hi')
/-- data that can be compared -/
def Pl (d : D) : Prop := ∃ p, toP d = some p ∧ Shp p 60
theorem Pl.str {n : Str} (h : PyData.strOk n = true) : Pl (.str n) := ⟨.str n, by rw [toP], (Shp.str h).mono (by decide)⟩
theorem Pl.lot {x : Lot} (h : NOk x) : Pl (eL x) := ⟨pL x, toP_eL x, (shp_pL h).mono (by decide)⟩
def nameB (x : Str) : Bool := decide (1 ≤ x.length ∧ x.length ≤ 6) && x.cps.toList.all fun c => decide (c ∈ (Str.ofString "abcdefghijklmnopqrstuvwxyz").cps.toList)
def labels13 : Lot := ["a", "b", "c", "ab", "x", "lazy", "none", "zzzzzz", "promis", "fall", "take", "lead", "entry"].map Str.ofString
/-- drawn names -/
structure Names (x : Lot) : Prop where
  asc : Asc x
  h1 : 1 ≤ x.length
  h5 : x.length ≤ 5
  nm : ∀ n ∈ x, OkN n
end EK


namespace EK
open PySem PySem.Spec PyProof.Rows L2 EKL
theorem Names.fam {ms : Lot} {A : List Lot} (h : Names ms) (f : FamL ms A) : Fam ms A := ⟨f, h.h1, h.h5, h.nm⟩
theorem upFrom_map (n : Nat) : upFrom 0 n = (List.range n).map fun (i : Nat) => D.int (i : Int) := by
  unfold upFrom
  congr 1
  funext i
  rw [Int.zero_add]
theorem rng1_nat {n : Nat} (h : n < 1000000) : rng1 [.int (n : Int)] = some ((List.range n).map fun (i : Nat) => D.int (i : Int)) := by
  rw [rng1, if_pos ⟨by omega, by omega⟩, Int.toNat_natCast, upFrom_map]
theorem rng1_int {i : Int} {n : Nat} (e : i = (n : Int)) (h : n < 1000000) : rng1 [.int i] = some ((List.range n).map fun (i : Nat) => D.int (i : Int)) := by rw [e, rng1_nat h]
end EK


namespace EK
open PySem PySem.Spec PyProof.Rows L2 EKL
theorem Fam.and {ms : Lot} {A B : List Lot} (h : Fam ms A) (h' : Fam ms B) : Fam ms (andL A B) := h.with (h.toFamL.and h'.toFamL)
theorem Fam.or {ms : Lot} {A B : List Lot} (h : Fam ms A) (h' : Fam ms B) : Fam ms (orL A B) := h.with (h.toFamL.or h'.toFamL)
theorem Fam.not {ms : Lot} {A : List Lot} (h : Fam ms A) : Fam ms (notL ms A) := h.with h.toFamL.not
theorem Fam.ext {ms : Lot} {A B : List Lot} (h : Fam ms A) (h' : Fam ms B) (e : ∀ x, LotOf ms x → hol A x = hol B x) : A = B := h.toFamL.ext h'.toFamL e
theorem Fam.dd {ms : Lot} {A : List Lot} (h : Fam ms A) (x : Lot) : hol A (dif ms (dif ms x)) = hol A x := hol_congr h.lot fun n hn => by
  rw [mem_dif, mem_dif]
  constructor
  · rintro ⟨_, q⟩
    exact Classical.byContradiction fun z => q ⟨hn, z⟩
  · exact fun q => ⟨hn, fun z => z.2 q⟩
section
variable {ms : Lot} {A B C : List Lot} (a : Fam ms A) (b : Fam ms B) (c : Fam ms C)
include a b c
end
end EK


namespace EKL
open PySem PySem.Spec PyProof.Rows L2 EK
def b_meets : SS := (sSeq (sExpr (gCall 2 m_need_two (saC (gv 0) (saC (gv 1) sa0)))) (sRet (gCall 1 m_least_of (saC (gLO (gLc2 [2, 3] [3] (gIt (gFld "Family" "own_least" (gv 0))) (sgN 2) yes (gIt (gFld "Family" "own_least" (gv 1))) (sgN 3) yes (gCall 2 m_common (saC (gv 2) (saC (gv 3) sa0))))) sa0))))
def m_meets : List D → M D := runB 4 b_meets
def b_overlap : SS := (sSeq (sAsg (gCall 2 m_meets (saC (gv 0) (saC (gv 1) sa0))) (sgN 2)) (sRet (vIf (tB' (g2 neD (gv 2) (gLst sa0))) (gC lenD (saC (g2 ixD (gv 2) (fun _ => ret (.int 0))) sa0)) (fun _ => ret .non))))
def m_overlap : List D → M D := runB 3 b_overlap
def b_Family_least : SS := (sRet (gC listD (saC (gFld "Family" "own_least" (gv 0)) sa0)))
def m_Family_least : List D → M D := runB 1 b_Family_least
def b_law_shared : SS := (sRet (gC tupleD (saC (gLO (gLc [2] (gIt (gv 0)) (sgN 2) (tB' (g2 inD (gv 2) (gv 1))) (gv 2))) sa0)))
def m_law_shared : List D → M D := runB 3 b_law_shared
def b_is_number : SS := (sRet (vAnd (g1 (isiD [] fun t => List.lookup t ([("NoneType", false), ("bool", true), ("int", true), ("str", false), ("tuple", false), ("list", false), ("dict", false)] : List (String × Bool))) (gv 0)) (vNot (g1 (isiD [] fun t => List.lookup t ([("NoneType", false), ("bool", true), ("int", false), ("str", false), ("tuple", false), ("list", false), ("dict", false)] : List (String × Bool))) (gv 0)))))
def m_is_number : List D → M D := runB 1 b_is_number
def b_is_within : SS := (sRet (vAnd (gCall 1 m_is_number (saC (gv 0) sa0)) (g3 leI leI (gv 1) (gv 0) (gv 2))))
def m_is_within : List D → M D := runB 3 b_is_within
def b_partner : SS := (sSeq (sExpr (gCallD 2 m_need_family [.str "family"] (saC (gv 0) sa0))) (sSeq (sIf (bNot (tB' (gCall 3 m_is_within (saC (gv 1) (saC (fun _ => ret (.int 0)) (saC (fun _ => ret (.int 5)) sa0)))))) (sThrow1 "BadCount" "count" (gv 1)) sNil) (sSeq (sPar 2 3 (slF (gFld "Family" "own_machines" (gv 0))) (slO (gLD sa0))) (sSeq (sFor (gIt (gCall 1 m_lots_in_order (saC (gv 2) sa0))) (sgN 4) (sIf (tB' (gC allD (saC (gLO (gLc [5] (gIt (gFld "Family" "own_least" (gv 0))) (sgN 5) yes (g2 gtI (gC lenD (saC (gCall 2 m_common (saC (gv 4) (saC (gv 5) sa0))) sa0)) (gv 1)))) sa0))) (sApp 3 (gv 4)) sNil)) (sFrz 3 (sRet (gMake "Family" 2 m_Family___init__ (saC (gv 2) (saC (gCall 1 m_least_of (saC (gv 3) sa0)) sa0)))))))))
def m_partner : List D → M D := runB 6 b_partner
end EKL


namespace EK
open PySem PySem.Spec PyProof.Rows L2 EKL
theorem LotOf.com {ms a : Lot} (h : LotOf ms a) (b : Lot) : LotOf ms (EK.com a b) := ⟨h.asc.filter _, fun n q => h.sub n (mem_com.mp q).1⟩
def pairsL (A B : List Lot) : List Lot := A.flatMap fun a => B.map fun b => com a b
def meetL (A B : List Lot) : List Lot := leastOf (pairsL A B)
section
variable {ms : Lot} {A B : List Lot} (h : Fam ms A) (h' : Fam ms B)
include h h'
end
def partL (ms : Lot) (A : List Lot) (k : Nat) : List Lot := leastOf ((allLots ms).filter fun l => A.all fun a => decide (k < (com l a).length))
/-- how many machines the smallest meet has -/
def ovl (M : List Lot) : Option Nat := M.head?.map List.length
def dueB (o : Option Nat) (k : Nat) : Bool := match o with
  | none => true
  | some n => decide (k < n)
def ovD : Option Nat → D
  | none => .non
  | some n => .int n
end EK



namespace EK
open PySem PySem.Spec PyProof.Rows L2
/-- can be shown, in at most w signs, at most n deep -/
structure Sh (p : PyData) (w n : Nat) : Prop where
  sh : p.showable = true
  len : p.shown.length ≤ w
  dep : p.depth ≤ n
  nd : p.hasDict = false
theorem Sh.mono {p : PyData} {w n w' n' : Nat} (h : Sh p w n) (hw : w ≤ w') (hn : n ≤ n') : Sh p w' n' := ⟨h.sh, Nat.le_trans h.len hw, Nat.le_trans h.dep hn, h.nd⟩
theorem Sh.none : Sh .none 4 0 := ⟨rfl, by decide, by simp [PyData.depth], by simp [PyData.hasDict]⟩
theorem Sh.bool (b : Bool) : Sh (.bool b) 5 0 := ⟨by cases b <;> rfl, by cases b <;> decide, by simp [PyData.depth], by simp [PyData.hasDict]⟩
theorem Sh.str {x : Str} (h : PyData.strOk x = true) : Sh (.str x) (10 * x.length + 2) 0 := ⟨by simp [PyData.showable], by
  refine StrLaws.reprText_len x fun c hc => ?_
  have : c < 0x110000 := by
    unfold PyData.strOk at h
    rw [Array.all_eq_true'] at h
    simpa using h c (by simpa using hc)
  omega, by simp [PyData.depth], by simp [PyData.hasDict]⟩
theorem Sh.all {w n : Nat} : ∀ {ps : List PyData}, (∀ p ∈ ps, Sh p w n) → PyData.showableAll ps = true ∧ ((PyData.shownAll ps).map (·.length)).sum ≤ w * ps.length ∧ PyData.depthAll ps ≤ n ∧ PyData.hasDictAll ps = false
  | [], _ => ⟨by simp [PyData.showableAll], by simp [PyData.shownAll], by simp [PyData.depthAll], by simp [PyData.hasDictAll]⟩
  | p :: ps, h => by
    obtain ⟨a, b, c, d⟩ := Sh.all fun q hq => h q (.tail _ hq)
    have z := h p (.head _)
    refine ⟨by simp [PyData.showableAll, z.sh, a], ?_, ?_, by simp [PyData.hasDictAll, z.nd, d]⟩
    · have := z.len
      simp only [PyData.shownAll, List.map_cons, List.sum_cons, List.length_cons, Nat.mul_succ]
      omega
    · have := z.dep
      simp only [PyData.depthAll]
      omega
theorem shownAll_len (ps : List PyData) : (PyData.shownAll ps).length = ps.length := by
  induction ps with
  | nil => simp [PyData.shownAll]
  | cons p ps ih => simp [PyData.shownAll, ih]
theorem Sh.list {w n : Nat} {ps : List PyData} (h : ∀ p ∈ ps, Sh p w n) : Sh (.list ps) (w * ps.length + 2 * ps.length + 3) (n + 1) := by
  obtain ⟨a, b, c, d⟩ := Sh.all h
  refine ⟨by simpa [PyData.showable] using a, ?_, by simp only [PyData.depth]; omega, by simpa [PyData.hasDict] using d⟩
  have := listText_len_le (PyData.shownAll ps)
  rw [shownAll_len] at this
  simp only [PyData.shown]
  omega
theorem Sh.tuple {w n : Nat} {ps : List PyData} (h : ∀ p ∈ ps, Sh p w n) : Sh (.tuple ps) (w * ps.length + 2 * ps.length + 3) (n + 1) := by
  obtain ⟨a, b, c, d⟩ := Sh.all h
  refine ⟨by simpa [PyData.showable] using a, ?_, by simp only [PyData.depth]; omega, by simpa [PyData.hasDict] using d⟩
  have := tupleText_len_le (PyData.shownAll ps)
  rw [shownAll_len] at this
  simp only [PyData.shown]
  omega
theorem log2_of {n k : Nat} (h : n < 2 ^ k) (hk : 0 < k) : n.log2 < k := by
  by_cases z : n = 0
  · subst z; simpa using hk
  · exact (Nat.log2_lt z).mpr h
theorem Sh.int {i : Int} {k : Nat} (h : i.natAbs < 10 ^ k) (hk : 0 < k) (h' : k ≤ 570) : Sh (.int i) (k + 1) 0 := ⟨by
  have : i.natAbs < 2 ^ 1900 := Nat.lt_of_lt_of_le h (Nat.le_trans (Nat.pow_le_pow_right (by decide) h') (by decide +kernel))
  have := log2_of this (by decide)
  simp only [PyData.showable, decide_eq_true_eq]
  omega, by
  have e := int_text_length_le10 hk h
  simp only [PyData.shown]
  show (Str.ofString (toString i)).length ≤ _
  rw [PySem.ofString_length]; exact e, by simp [PyData.depth], by simp [PyData.hasDict]⟩
theorem neS_str (x y : Str) : neS (.str x) (.str y) = some (.bl (!decide (x = y))) := rfl
structure Sm (n : Str) : Prop where
  ok : PyData.strOk n = true
  len : n.length ≤ 6
end EK


namespace K01
open PySem PySem.Spec PyProof.Rows L2 EK EKL
def inB : SS := (sSeq (sIf (bOr (bNot (tB' (g1 (isiYD (("BadBook", true) :: ("BadCount", true) :: ("BadCourse", true) :: ("BadDeed", true) :: ("BadEntries", true) :: ("BadFalls", true) :: ("BadFamily", true) :: ("BadHand", true) :: ("BadIndex", true) :: ("BadJournal", true) :: ("BadLeft", true) :: ("BadLog", true) :: ("BadLot", true) :: ("BadMachine", true) :: ("BadPlace", true) :: ("BadPrices", true) :: ("BadQuota", true) :: ("BadRacks", true) :: ("BadRecord", true) :: ("BadRun", true) :: ("BadSpread", true) :: ("BadStages", true) :: ("BadStanding", true) :: ("BadText", true) :: ("BadTold", true) :: ("BadWeights", true) :: ("CutOff", true) :: ("NoLots", true) :: ("NoTalk", true) :: ("NotNewest", true) :: ("NotRight", true) :: ("NothingDone", true) :: ("OtherMachines", true) :: []) [] fun t => List.lookup t ([("NoneType", false), ("bool", false), ("int", false), ("str", false), ("tuple", false), ("list", false), ("dict", false)] : List (String × Bool))) (gv 6)))) (bNot (tB' (g1 (isiYD (("BadBook", true) :: ("BadCount", true) :: ("BadCourse", true) :: ("BadDeed", true) :: ("BadEntries", true) :: ("BadFalls", true) :: ("BadFamily", true) :: ("BadHand", true) :: ("BadIndex", true) :: ("BadJournal", true) :: ("BadLeft", true) :: ("BadLog", true) :: ("BadLot", true) :: ("BadMachine", true) :: ("BadPlace", true) :: ("BadPrices", true) :: ("BadQuota", true) :: ("BadRacks", true) :: ("BadRecord", true) :: ("BadRun", true) :: ("BadSpread", true) :: ("BadStages", true) :: ("BadStanding", true) :: ("BadText", true) :: ("BadTold", true) :: ("BadWeights", true) :: ("CutOff", true) :: ("NoLots", true) :: ("NoTalk", true) :: ("NotNewest", true) :: ("NotRight", true) :: ("NothingDone", true) :: ("OtherMachines", true) :: []) [] fun t => List.lookup t ([("NoneType", false), ("bool", false), ("int", false), ("str", false), ("tuple", false), ("list", false), ("dict", false)] : List (String × Bool))) (gv 6))))) (sRet (fun _ => ret (.bl false))) sNil) (sSeq (sIf (tB' (g2 neD (g2 addD (gCall 1 m_law_first_marks (saC (gv 6) sa0)) (gCall 1 m_law_last_marks (saC (gv 6) sa0))) (gLO (gLc [7] (gItC rng1 (saC (fun _ => ret (.int 33)) sa0)) (sgN 7) yes (g2 eqD (gv 7) (gv 5)))))) (sRet (fun _ => ret (.bl false))) sNil) (sIf (bAnd (tB' (g2 gtI (gv 5) (fun _ => ret (.int 15)))) (tB' (g2 neD (gC (strMD ["BadCourse", "BadEntries", "BadLog", "BadLot", "BadPrices", "BadRacks", "BadRecord", "BadRun", "BadSpread", "BadStanding", "BadTold", "BadWeights", "NoLots", "NotNewest", "NotRight", "NothingDone", "OtherMachines"]) (saC (gv 6) sa0)) (fun _ => ret (.str "no such thing"))))) (sRet (fun _ => ret (.bl false))) sNil)))
theorem b_law_cut : b_law = (sSeq (sFor (gItC rng1 (saC (g2 addD (fun _ => ret (.int 1)) (gC min2D (saC (gC lenD (saC (gv 0) sa0)) (saC (fun _ => ret (.int 5)) sa0)))) sa0)) (sgN 2) (sSeq (sAsg (gCall 2 m_law_pick (saC (gv 1) (saC (gLst (saC (fun _ => ret .non) (saC (fun _ => ret (.int 0)) (saC (fun _ => ret (.int 7)) (saC (fun _ => ret (.str "x")) (saC (EK.gTup (saC (fun _ => ret (.int 1)) (saC (fun _ => ret (.int 2)) sa0))) (saC (gLst (saC (fun _ => ret (.int 3)) sa0)) (saC (fun _ => ret (.bl true)) (saC (gDisp [((fun _ => ret (.str "a")), (fun _ => ret (.int 1)))]) (saC (g1 negD (fun _ => ret (.int 1))) (saC (fun _ => ret (.str "")) (saC (gCall 2 m_law_take (saC (gv 1) (saC (g2 powD (fun _ => ret (.int 10)) (fun _ => ret (.int 9))) sa0))) sa0)))))))))))) sa0))) (sgN 3)) (sSeq (sAsg (g2 addD (gCall 1 m_law_with (saC (gv 3) sa0)) (gCall 0 m_law_without sa0)) (sgN 4)) (sSeq (sIf (bOr (tB' (g2 neS (gC reprLX (saC (gCall 1 m_law_told (saC (gv 4) sa0)) sa0)) (gC reprLX (saC (g2 mulD (gLst (saC (gv 3) sa0)) (fun _ => ret (.int 16))) sa0)))) (tB' (g2 neS (gC reprLX (saC (gCall 1 m_law_told (saC (gCall 1 m_law_by_name (saC (gv 3) sa0)) sa0)) sa0)) (gC reprLX (saC (g2 mulD (gLst (saC (gv 3) sa0)) (fun _ => ret (.int 16))) sa0))))) (sRet (fun _ => ret (.bl false))) sNil) (sFor (gItC enumA (saC (gv 4) sa0)) (sgT (sgCons (sgN 5) (sgCons (sgN 6) sgNil))) inB))))) (sRet (fun _ => ret (.bl true)))) := rfl
def exs (W : D) : List D := [.exc "BadFamily" ["part"] [W], .exc "BadCount" ["count"] [W], .exc "BadQuota" ["quota"] [W], .exc "BadHand" ["part"] [W], .exc "BadBook" ["part"] [W], .exc "BadMachine" ["machine"] [W], .exc "BadLeft" ["left"] [W], .exc "BadDeed" ["at"] [W], .exc "BadFalls" ["falls"] [W], .exc "BadStages" ["part"] [W], .exc "BadIndex" ["index"] [W], .exc "BadPlace" ["place"] [W], .exc "NoTalk" ["term"] [W], .exc "CutOff" ["place"] [W], .exc "BadJournal" ["at"] [W], .exc "BadText" ["row"] [W]]
def exm : List D := [.exm "OtherMachines" "no such thing", .exm "BadLot" "no such thing", .exm "BadWeights" "no such thing", .exm "BadRacks" "no such thing", .exm "BadLog" "no such thing", .exm "BadRecord" "no such thing", .exm "BadStanding" "no such thing", .exm "BadTold" "no such thing", .exm "BadEntries" "no such thing", .exm "BadPrices" "no such thing", .exm "NotRight" "no such thing", .exm "NotNewest" "no such thing", .exm "BadRun" "no such thing", .exm "BadSpread" "no such thing", .exm "NoLots" "no such thing", .exm "BadCourse" "no such thing", .exm "NothingDone" "no such thing"]
theorem with_ok (W : D) : m_law_with [W] = EK.ret (.lst (exs W)) := by
  kernel_rfl
theorem by_name_ok (W : D) : m_law_by_name [W] = EK.ret (.lst (exs W)) := by
  kernel_rfl
theorem without_ok : m_law_without [] = EK.ret (.lst exm) := by
  kernel_rfl
theorem told_ok (W : D) : m_law_told [.lst (exs W ++ exm)] = EK.ret (.lst (List.replicate 16 W)) := by
  kernel_rfl
theorem told_ok' (W : D) : m_law_told [.lst (exs W)] = EK.ret (.lst (List.replicate 16 W)) := by
  kernel_rfl
def pairs (W : D) : List (Int × D) := (0, .exc "BadFamily" ["part"] [W]) :: (1, .exc "BadCount" ["count"] [W]) :: (2, .exc "BadQuota" ["quota"] [W]) :: (3, .exc "BadHand" ["part"] [W]) :: (4, .exc "BadBook" ["part"] [W]) :: (5, .exc "BadMachine" ["machine"] [W]) :: (6, .exc "BadLeft" ["left"] [W]) :: (7, .exc "BadDeed" ["at"] [W]) :: (8, .exc "BadFalls" ["falls"] [W]) :: (9, .exc "BadStages" ["part"] [W]) :: (10, .exc "BadIndex" ["index"] [W]) :: (11, .exc "BadPlace" ["place"] [W]) :: (12, .exc "NoTalk" ["term"] [W]) :: (13, .exc "CutOff" ["place"] [W]) :: (14, .exc "BadJournal" ["at"] [W]) :: (15, .exc "BadText" ["row"] [W]) :: (16, .exm "OtherMachines" "no such thing") :: (17, .exm "BadLot" "no such thing") :: (18, .exm "BadWeights" "no such thing") :: (19, .exm "BadRacks" "no such thing") :: (20, .exm "BadLog" "no such thing") :: (21, .exm "BadRecord" "no such thing") :: (22, .exm "BadStanding" "no such thing") :: (23, .exm "BadTold" "no such thing") :: (24, .exm "BadEntries" "no such thing") :: (25, .exm "BadPrices" "no such thing") :: (26, .exm "NotRight" "no such thing") :: (27, .exm "NotNewest" "no such thing") :: (28, .exm "BadRun" "no such thing") :: (29, .exm "BadSpread" "no such thing") :: (30, .exm "NoLots" "no such thing") :: (31, .exm "BadCourse" "no such thing") :: (32, .exm "NothingDone" "no such thing") :: []
theorem in_0 (W : D) (a b c d e : Option Sl) : inB [a, b, c, d, e, some (.fz (.int 0)), some (.fz (.exc "BadFamily" ["part"] [W])), none] = EK.ret (.next [a, b, c, d, e, some (.fz (.int 0)), some (.fz (.exc "BadFamily" ["part"] [W])), none]) := by
  kernel_rfl
theorem in_1 (W : D) (a b c d e : Option Sl) : inB [a, b, c, d, e, some (.fz (.int 1)), some (.fz (.exc "BadCount" ["count"] [W])), none] = EK.ret (.next [a, b, c, d, e, some (.fz (.int 1)), some (.fz (.exc "BadCount" ["count"] [W])), none]) := by
  kernel_rfl
theorem in_2 (W : D) (a b c d e : Option Sl) : inB [a, b, c, d, e, some (.fz (.int 2)), some (.fz (.exc "BadQuota" ["quota"] [W])), none] = EK.ret (.next [a, b, c, d, e, some (.fz (.int 2)), some (.fz (.exc "BadQuota" ["quota"] [W])), none]) := by
  kernel_rfl
theorem in_3 (W : D) (a b c d e : Option Sl) : inB [a, b, c, d, e, some (.fz (.int 3)), some (.fz (.exc "BadHand" ["part"] [W])), none] = EK.ret (.next [a, b, c, d, e, some (.fz (.int 3)), some (.fz (.exc "BadHand" ["part"] [W])), none]) := by
  kernel_rfl
theorem in_4 (W : D) (a b c d e : Option Sl) : inB [a, b, c, d, e, some (.fz (.int 4)), some (.fz (.exc "BadBook" ["part"] [W])), none] = EK.ret (.next [a, b, c, d, e, some (.fz (.int 4)), some (.fz (.exc "BadBook" ["part"] [W])), none]) := by
  kernel_rfl
theorem in_5 (W : D) (a b c d e : Option Sl) : inB [a, b, c, d, e, some (.fz (.int 5)), some (.fz (.exc "BadMachine" ["machine"] [W])), none] = EK.ret (.next [a, b, c, d, e, some (.fz (.int 5)), some (.fz (.exc "BadMachine" ["machine"] [W])), none]) := by
  kernel_rfl
theorem in_6 (W : D) (a b c d e : Option Sl) : inB [a, b, c, d, e, some (.fz (.int 6)), some (.fz (.exc "BadLeft" ["left"] [W])), none] = EK.ret (.next [a, b, c, d, e, some (.fz (.int 6)), some (.fz (.exc "BadLeft" ["left"] [W])), none]) := by
  kernel_rfl
theorem in_7 (W : D) (a b c d e : Option Sl) : inB [a, b, c, d, e, some (.fz (.int 7)), some (.fz (.exc "BadDeed" ["at"] [W])), none] = EK.ret (.next [a, b, c, d, e, some (.fz (.int 7)), some (.fz (.exc "BadDeed" ["at"] [W])), none]) := by
  kernel_rfl
theorem in_8 (W : D) (a b c d e : Option Sl) : inB [a, b, c, d, e, some (.fz (.int 8)), some (.fz (.exc "BadFalls" ["falls"] [W])), none] = EK.ret (.next [a, b, c, d, e, some (.fz (.int 8)), some (.fz (.exc "BadFalls" ["falls"] [W])), none]) := by
  kernel_rfl
theorem in_9 (W : D) (a b c d e : Option Sl) : inB [a, b, c, d, e, some (.fz (.int 9)), some (.fz (.exc "BadStages" ["part"] [W])), none] = EK.ret (.next [a, b, c, d, e, some (.fz (.int 9)), some (.fz (.exc "BadStages" ["part"] [W])), none]) := by
  kernel_rfl
theorem in_10 (W : D) (a b c d e : Option Sl) : inB [a, b, c, d, e, some (.fz (.int 10)), some (.fz (.exc "BadIndex" ["index"] [W])), none] = EK.ret (.next [a, b, c, d, e, some (.fz (.int 10)), some (.fz (.exc "BadIndex" ["index"] [W])), none]) := by
  kernel_rfl
theorem in_11 (W : D) (a b c d e : Option Sl) : inB [a, b, c, d, e, some (.fz (.int 11)), some (.fz (.exc "BadPlace" ["place"] [W])), none] = EK.ret (.next [a, b, c, d, e, some (.fz (.int 11)), some (.fz (.exc "BadPlace" ["place"] [W])), none]) := by
  kernel_rfl
theorem in_12 (W : D) (a b c d e : Option Sl) : inB [a, b, c, d, e, some (.fz (.int 12)), some (.fz (.exc "NoTalk" ["term"] [W])), none] = EK.ret (.next [a, b, c, d, e, some (.fz (.int 12)), some (.fz (.exc "NoTalk" ["term"] [W])), none]) := by
  kernel_rfl
theorem in_13 (W : D) (a b c d e : Option Sl) : inB [a, b, c, d, e, some (.fz (.int 13)), some (.fz (.exc "CutOff" ["place"] [W])), none] = EK.ret (.next [a, b, c, d, e, some (.fz (.int 13)), some (.fz (.exc "CutOff" ["place"] [W])), none]) := by
  kernel_rfl
theorem in_14 (W : D) (a b c d e : Option Sl) : inB [a, b, c, d, e, some (.fz (.int 14)), some (.fz (.exc "BadJournal" ["at"] [W])), none] = EK.ret (.next [a, b, c, d, e, some (.fz (.int 14)), some (.fz (.exc "BadJournal" ["at"] [W])), none]) := by
  kernel_rfl
theorem in_15 (W : D) (a b c d e : Option Sl) : inB [a, b, c, d, e, some (.fz (.int 15)), some (.fz (.exc "BadText" ["row"] [W])), none] = EK.ret (.next [a, b, c, d, e, some (.fz (.int 15)), some (.fz (.exc "BadText" ["row"] [W])), none]) := by
  kernel_rfl
theorem in_16 (W : D) (a b c d e : Option Sl) : inB [a, b, c, d, e, some (.fz (.int 16)), some (.fz (.exm "OtherMachines" "no such thing")), none] = EK.ret (.next [a, b, c, d, e, some (.fz (.int 16)), some (.fz (.exm "OtherMachines" "no such thing")), none]) := by
  kernel_rfl
theorem in_17 (W : D) (a b c d e : Option Sl) : inB [a, b, c, d, e, some (.fz (.int 17)), some (.fz (.exm "BadLot" "no such thing")), none] = EK.ret (.next [a, b, c, d, e, some (.fz (.int 17)), some (.fz (.exm "BadLot" "no such thing")), none]) := by
  kernel_rfl
theorem in_18 (W : D) (a b c d e : Option Sl) : inB [a, b, c, d, e, some (.fz (.int 18)), some (.fz (.exm "BadWeights" "no such thing")), none] = EK.ret (.next [a, b, c, d, e, some (.fz (.int 18)), some (.fz (.exm "BadWeights" "no such thing")), none]) := by
  kernel_rfl
theorem in_19 (W : D) (a b c d e : Option Sl) : inB [a, b, c, d, e, some (.fz (.int 19)), some (.fz (.exm "BadRacks" "no such thing")), none] = EK.ret (.next [a, b, c, d, e, some (.fz (.int 19)), some (.fz (.exm "BadRacks" "no such thing")), none]) := by
  kernel_rfl
theorem in_20 (W : D) (a b c d e : Option Sl) : inB [a, b, c, d, e, some (.fz (.int 20)), some (.fz (.exm "BadLog" "no such thing")), none] = EK.ret (.next [a, b, c, d, e, some (.fz (.int 20)), some (.fz (.exm "BadLog" "no such thing")), none]) := by
  kernel_rfl
theorem in_21 (W : D) (a b c d e : Option Sl) : inB [a, b, c, d, e, some (.fz (.int 21)), some (.fz (.exm "BadRecord" "no such thing")), none] = EK.ret (.next [a, b, c, d, e, some (.fz (.int 21)), some (.fz (.exm "BadRecord" "no such thing")), none]) := by
  kernel_rfl
theorem in_22 (W : D) (a b c d e : Option Sl) : inB [a, b, c, d, e, some (.fz (.int 22)), some (.fz (.exm "BadStanding" "no such thing")), none] = EK.ret (.next [a, b, c, d, e, some (.fz (.int 22)), some (.fz (.exm "BadStanding" "no such thing")), none]) := by
  kernel_rfl
theorem in_23 (W : D) (a b c d e : Option Sl) : inB [a, b, c, d, e, some (.fz (.int 23)), some (.fz (.exm "BadTold" "no such thing")), none] = EK.ret (.next [a, b, c, d, e, some (.fz (.int 23)), some (.fz (.exm "BadTold" "no such thing")), none]) := by
  kernel_rfl
theorem in_24 (W : D) (a b c d e : Option Sl) : inB [a, b, c, d, e, some (.fz (.int 24)), some (.fz (.exm "BadEntries" "no such thing")), none] = EK.ret (.next [a, b, c, d, e, some (.fz (.int 24)), some (.fz (.exm "BadEntries" "no such thing")), none]) := by
  kernel_rfl
theorem in_25 (W : D) (a b c d e : Option Sl) : inB [a, b, c, d, e, some (.fz (.int 25)), some (.fz (.exm "BadPrices" "no such thing")), none] = EK.ret (.next [a, b, c, d, e, some (.fz (.int 25)), some (.fz (.exm "BadPrices" "no such thing")), none]) := by
  kernel_rfl
theorem in_26 (W : D) (a b c d e : Option Sl) : inB [a, b, c, d, e, some (.fz (.int 26)), some (.fz (.exm "NotRight" "no such thing")), none] = EK.ret (.next [a, b, c, d, e, some (.fz (.int 26)), some (.fz (.exm "NotRight" "no such thing")), none]) := by
  kernel_rfl
theorem in_27 (W : D) (a b c d e : Option Sl) : inB [a, b, c, d, e, some (.fz (.int 27)), some (.fz (.exm "NotNewest" "no such thing")), none] = EK.ret (.next [a, b, c, d, e, some (.fz (.int 27)), some (.fz (.exm "NotNewest" "no such thing")), none]) := by
  kernel_rfl
theorem in_28 (W : D) (a b c d e : Option Sl) : inB [a, b, c, d, e, some (.fz (.int 28)), some (.fz (.exm "BadRun" "no such thing")), none] = EK.ret (.next [a, b, c, d, e, some (.fz (.int 28)), some (.fz (.exm "BadRun" "no such thing")), none]) := by
  kernel_rfl
theorem in_29 (W : D) (a b c d e : Option Sl) : inB [a, b, c, d, e, some (.fz (.int 29)), some (.fz (.exm "BadSpread" "no such thing")), none] = EK.ret (.next [a, b, c, d, e, some (.fz (.int 29)), some (.fz (.exm "BadSpread" "no such thing")), none]) := by
  kernel_rfl
theorem in_30 (W : D) (a b c d e : Option Sl) : inB [a, b, c, d, e, some (.fz (.int 30)), some (.fz (.exm "NoLots" "no such thing")), none] = EK.ret (.next [a, b, c, d, e, some (.fz (.int 30)), some (.fz (.exm "NoLots" "no such thing")), none]) := by
  kernel_rfl
theorem in_31 (W : D) (a b c d e : Option Sl) : inB [a, b, c, d, e, some (.fz (.int 31)), some (.fz (.exm "BadCourse" "no such thing")), none] = EK.ret (.next [a, b, c, d, e, some (.fz (.int 31)), some (.fz (.exm "BadCourse" "no such thing")), none]) := by
  kernel_rfl
theorem in_32 (W : D) (a b c d e : Option Sl) : inB [a, b, c, d, e, some (.fz (.int 32)), some (.fz (.exm "NothingDone" "no such thing")), none] = EK.ret (.next [a, b, c, d, e, some (.fz (.int 32)), some (.fz (.exm "NothingDone" "no such thing")), none]) := by
  kernel_rfl
theorem in_ok (W : D) (a b c d e : Option Sl) : ∀ p ∈ pairs W, inB [a, b, c, d, e, some (.fz (.int p.1)), some (.fz p.2), none] = EK.ret (.next [a, b, c, d, e, some (.fz (.int p.1)), some (.fz p.2), none]) := by
  intro p hp
  unfold pairs at hp
  simp only [List.mem_cons, List.not_mem_nil, or_false] at hp
  rcases hp with rfl | rfl | rfl | rfl | rfl | rfl | rfl | rfl | rfl | rfl | rfl | rfl | rfl | rfl | rfl | rfl | rfl | rfl | rfl | rfl | rfl | rfl | rfl | rfl | rfl | rfl | rfl | rfl | rfl | rfl | rfl | rfl | rfl
  · exact in_0 W a b c d e
  · exact in_1 W a b c d e
  · exact in_2 W a b c d e
  · exact in_3 W a b c d e
  · exact in_4 W a b c d e
  · exact in_5 W a b c d e
  · exact in_6 W a b c d e
  · exact in_7 W a b c d e
  · exact in_8 W a b c d e
  · exact in_9 W a b c d e
  · exact in_10 W a b c d e
  · exact in_11 W a b c d e
  · exact in_12 W a b c d e
  · exact in_13 W a b c d e
  · exact in_14 W a b c d e
  · exact in_15 W a b c d e
  · exact in_16 W a b c d e
  · exact in_17 W a b c d e
  · exact in_18 W a b c d e
  · exact in_19 W a b c d e
  · exact in_20 W a b c d e
  · exact in_21 W a b c d e
  · exact in_22 W a b c d e
  · exact in_23 W a b c d e
  · exact in_24 W a b c d e
  · exact in_25 W a b c d e
  · exact in_26 W a b c d e
  · exact in_27 W a b c d e
  · exact in_28 W a b c d e
  · exact in_29 W a b c d e
  · exact in_30 W a b c d e
  · exact in_31 W a b c d e
  · exact in_32 W a b c d e
theorem loop_ok (W : D) (a b c d e : Option Sl) : ∀ (ps : List (Int × D)), (∀ p ∈ ps, p ∈ pairs W) → ∀ x y, ∃ x' y', EK.forM (sgT (sgCons (sgN 5) (sgCons (sgN 6) sgNil))) inB (ps.map fun p => D.tup [.int p.1, p.2]) [a, b, c, d, e, x, y, none] = EK.ret (.next [a, b, c, d, e, x', y', none])
  | [], _, x, y => ⟨x, y, rfl⟩
  | p :: ps, h, x, y => by
    obtain ⟨x', y', k⟩ := loop_ok W a b c d e ps (fun q hq => h q (.tail _ hq)) (some (.fz (.int p.1))) (some (.fz p.2))
    refine ⟨x', y', ?_⟩
    rw [List.map_cons, EK.forM, show sgT (sgCons (sgN 5) (sgCons (sgN 6) sgNil)) [a, b, c, d, e, x, y, none] (D.tup [.int p.1, p.2]) = some [a, b, c, d, e, some (.fz (.int p.1)), some (.fz p.2), none] from rfl, ofO_some, bnd_ret, in_ok W a b c d e p (h p (.head _)), bnd_ret]
    exact k
theorem enum_ok (W : D) : enumA [.lst (exs W ++ exm)] = some ((pairs W).map fun p => D.tup [.int p.1, p.2]) := by
  kernel_rfl
/-- what is drawn -/
def whats : List D := [.non, .int 0, .int 7, .str "x", .tup [.int 1, .int 2], .lst [.int 3], .bl true, .dct [.inr "a"] [.int 1], .int (-1), .str ""]
theorem repr_plain {W : D} {p : PyData} {w n : Nat} (h : itemP W = some p) (s : Sh p w n) (hw : w ≤ 900000) (hn : n ≤ 50) : ∃ z, reprLX [.lst (List.replicate 16 W)] = some (.str z) := by
  have e : (List.replicate 16 W).mapM itemP = some (List.replicate 16 p) := by
    simp [List.replicate, List.mapM_cons, h]
  have l := Sh.list (ps := List.replicate 16 p) (w := w) (n := n) fun q hq => by rw [(List.mem_replicate.mp hq).2]; exact s
  rw [List.length_replicate] at l
  refine ⟨(PyData.list (List.replicate 16 p)).shown, ?_⟩
  show (((List.replicate 16 W).mapM itemP).map PyData.list).bind showX = _
  rw [e, Option.map_some, Option.bind_some]
  unfold showX
  rw [if_pos ⟨l.sh, by have := l.len; rw [sizeLine_eq]; omega, by have := l.dep; omega⟩]
theorem repr_dict : ∃ z, reprLX [.lst (List.replicate 16 (.dct [.inr "a"] [.int 1]))] = some (.str z) := by
  refine ⟨(PyData.list (List.replicate 16 (.dict [(.str "a", .int 1)]))).shown, ?_⟩
  show showX (.list (List.replicate 16 (.dict [(.str "a", .int 1)]))) = _
  unfold showX
  rw [if_pos ⟨by decide +kernel, by rw [sizeLine_eq]; decide +kernel, by decide +kernel⟩]
theorem repr_what {W : D} (h : W ∈ whats ∨ ∃ i : Nat, W = .int i ∧ (i : Int) < 1000000000) : ∃ z, reprLX [.lst (List.replicate 16 W)] = some (.str z) := by
  rcases h with h | ⟨i, rfl, h⟩
  · unfold whats at h
    simp only [List.mem_cons, List.not_mem_nil, or_false] at h
    rcases h with rfl | rfl | rfl | rfl | rfl | rfl | rfl | rfl | rfl | rfl
    · exact repr_plain (p := .none) rfl Sh.none (by omega) (by omega)
    · exact repr_plain (p := .int 0) rfl (Sh.int (k := 2) (by decide) (by decide) (by decide)) (by omega) (by omega)
    · exact repr_plain (p := .int 7) rfl (Sh.int (k := 2) (by decide) (by decide) (by decide)) (by omega) (by omega)
    · exact repr_plain (p := .str "x") rfl (Sh.str (by decide +kernel)) (by decide +kernel) (by omega)
    · exact repr_plain (p := .tuple [.int 1, .int 2]) rfl (Sh.tuple (w := 3) (n := 0) fun q hq => by
        simp only [List.mem_cons, List.not_mem_nil, or_false] at hq
        rcases hq with rfl | rfl
        · exact Sh.int (k := 2) (by decide) (by decide) (by decide)
        · exact Sh.int (k := 2) (by decide) (by decide) (by decide)) (by decide) (by omega)
    · exact repr_plain (p := .list [.int 3]) rfl (Sh.list (w := 3) (n := 0) fun q hq => by
        simp only [List.mem_cons, List.not_mem_nil, or_false] at hq
        subst hq
        exact Sh.int (k := 2) (by decide) (by decide) (by decide)) (by decide) (by omega)
    · exact repr_plain (p := .bool true) rfl (Sh.bool true) (by omega) (by omega)
    · exact repr_dict
    · exact repr_plain (p := .int (-1)) rfl (Sh.int (k := 2) (by decide) (by decide) (by decide)) (by omega) (by omega)
    · exact repr_plain (p := .str "") rfl (Sh.str (by decide +kernel)) (by decide +kernel) (by omega)
  · exact repr_plain (p := .int i) rfl (Sh.int (k := 10) (by omega) (by decide) (by decide)) (by omega) (by omega)
theorem ds0_ok (ns : List Int) : OkS (ds0 ns) := by
  refine ⟨fun x hx => ?_, fun x hx => ?_, by show (0 : Int) ≤ 0; omega, by show (0 : Int) ≤ 0; omega⟩
  · obtain ⟨g, hg, rfl⟩ := List.mem_map.mp (show x ∈ wideOf ns from hx)
    have := (List.mem_filter.mp hg).2
    simp only [decide_eq_true_eq] at this
    omega
  · obtain ⟨g, hg, rfl⟩ := List.mem_map.mp (show x ∈ cellsOf ns from hx)
    have h1 := Int.emod_nonneg (absI g) (show (2147483629 : Int) ≠ 0 by decide)
    have h2 := Int.emod_lt_of_pos (absI g) (show (0 : Int) < 2147483629 by decide)
    omega
theorem law_tr (ns : List Int) (hn : ns.length ≤ 63) : Tr 9000 (m_law ns) fun d => d = .bl true := by
  obtain ⟨k, hk, rk⟩ : ∃ k : Nat, k ≤ 6 ∧ rng1 [.int (1 + (if (5 : Int) < (ns.length : Int) then 5 else (ns.length : Int)))] = some ((List.range k).map fun (i : Nat) => D.int (i : Int)) := by
    by_cases z : (5 : Int) < (ns.length : Int)
    · exact ⟨6, by decide, by rw [if_pos z]; exact rng1_int (by omega) (by decide)⟩
    · exact ⟨1 + ns.length, by omega, by rw [if_neg z]; exact rng1_int (by omega) (by omega)⟩
  simp! [m_law, b_law_cut, runL, startL, lenD_scr, show ∀ i j : Int, min2D [.int i, .int j] = some (.int (if j < i then j else i)) from fun _ _ => rfl, rk]
  refine Tr.le (Tr.bnd (Tr.forI 449 (fun (i : Nat) => D.int (i : Int)) (fun i G => ∃ a b c d e, G = [some (.fz (.scr ns)), some (.fz .drw), a, b, c, d, e, none]) k (List.range k) 0 _ (by rw [List.length_range]; omega) ⟨_, _, _, _, _, rfl⟩ ?_) (j := 0) ?_) (by rw [List.length_range]; omega)
  · rintro i G x hx hi ⟨a, b, c, d, e, rfl⟩
    refine ⟨_, rfl, ?_⟩
    have dsp : ∀ G : Sls, gDisp [((fun _ => EK.ret (.str "a")), (fun _ => EK.ret (.int 1)))] G = EK.ret (.dct [.inr "a"] [.int 1]) := fun G => by kernel_rfl
    simp! [dsp, show negD (.int 1) = some (.int (-1)) from rfl, show powD (.int 10) (.int 9) = some (.int 1000000000) from by kernel_rfl]
    refine Tr.le (Tr.bnd (take_tr (k := 1000000000) (by omega) (by omega)) (j := 440) fun y ⟨n, e, hn⟩ => ?_) (by decide)
    subst e
    have pk : Tr 1 (m_law_pick [.drw, .lst [.non, .int 0, .int 7, .str "x", .tup [.int 1, .int 2], .lst [.int 3], .bl true, .dct [.inr "a"] [.int 1], .int (-1), .str "", .int n]]) fun y => y ∈ whats ++ [.int n] := pick_tr false (xs := [.non, .int 0, .int 7, .str "x", .tup [.int 1, .int 2], .lst [.int 3], .bl true, .dct [.inr "a"] [.int 1], .int (-1), .str "", .int n]) (by simp) (by simp)
    refine Tr.le (Tr.bnd pk (j := 430) fun W hW => ?_) (by decide)
    obtain ⟨z, hz⟩ := repr_what (W := W) (by
      rcases List.mem_append.mp hW with h | h
      · exact .inl h
      · exact .inr ⟨n, List.mem_singleton.mp h, hn⟩)
    have ad : addD (.lst (exs W)) (.lst exm) = some (.lst (exs W ++ exm)) := by kernel_rfl
    have mu : mulD (.lst [W]) (.int 16) = some (.lst (List.replicate 16 W)) := by kernel_rfl
    have ns0 : neS (.str z) (.str z) = some (.bl false) := by rw [neS_str]; simp
    rw [with_ok, bnd_ret, without_ok, bnd_ret, ad, ofO_some, bnd_ret, told_ok, bnd_ret, hz, ofO_some, bnd_ret, mu, ofO_some, bnd_ret, hz, ofO_some, bnd_ret, ns0, ofO_some, bnd_ret, show asB (.bl false) = some false from rfl, ofO_some, bnd_ret, by_name_ok, bnd_ret, told_ok', bnd_ret, hz]
    simp only [Bool.false_eq_true, if_false, ofO_some, bnd_ret, ns0, show asB (.bl false) = some false from rfl]
    rw [hz]
    simp only [Bool.false_eq_true, if_false, ofO_some, bnd_ret, ns0, show asB (.bl false) = some false from rfl]
    have en := enum_ok W
    generalize exs W ++ exm = L at en ⊢
    obtain ⟨x', y', hl⟩ := loop_ok W (some (.fz (.scr ns))) (some (.fz .drw)) (some (.fz (.int x))) (some (.fz W)) (some (.fz (.lst L))) (pairs W) (fun _ h => h) d e
    generalize (pairs W).map (fun p => D.tup [.int p.1, p.2]) = PS at en hl
    show Tr 430 (bnd (EK.ret (.lst L)) fun a => bnd (ofO (enumA [a])) fun ds => EK.forM (sgT (sgCons (sgN 5) (sgCons (sgN 6) sgNil))) inB ds _) _
    rw [bnd_ret, en, ofO_some, bnd_ret, hl]
    exact Tr.le (Tr.ret ⟨_, rfl, _, _, _, _, _, rfl⟩) (by decide)
  · rintro o ⟨G', rfl, a, b, c, d, e, rfl⟩
    simp! []
    exact Tr.ret rfl
theorem lw : Lw := fun ns hn => by
  obtain ⟨d, s, e, _, _, p⟩ := law_tr ns hn (ds0 ns) (ds0_ok ns) (by show (0 : Int) + 9000 ≤ LIM; unfold LIM; omega)
  subst p
  exact ⟨s, e⟩
end K01
theorem K01.final : PySem.Challenge.rw_electkeep_k01_errors_made.Holds := K01.holds_of K01.lw


theorem PySem.Challenge.cw_electkeep_k01_errors_made_holds : PySem.Challenge.rw_electkeep_k01_errors_made.Holds := by
  exact K01.final
