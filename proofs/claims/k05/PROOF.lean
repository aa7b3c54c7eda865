import PyProof.Rows.All
import Wide.All
import OpenK.AllK
import Wide.FinOn
import HandS.HeadHook4
import HandS.ExcInit
import HandS.EndTab
import HandS.Defaults
import HandS.WordsExc
import HandS.Head0
import HandS.Head1
import HandS.Head2
import HandS.HeadEnd
import HandS.HeadHook1
import HandS.HeadHook2
import HandS.ForMost
import KE.SortData
import KE.DataCmp
import HandS.SetFor
import HandS.Strs
import HandS.ForExc
import HandS.Star
import HandS.Lambda
import HandS.Walk
import HandS.Zip
import HandS.TupAny
import HandS.Deep
import HandS.IsInst
import HandS.Text
import HandS.Property
import HandS.SlotsOwn
import HandS.Style
import HandS.CallSlots
import HandS.Dict
import HandS.Iter
import HandS.DictComp
import HandS.More
import HandS.RaiseMore
import KE.KExcSuper
import HandS.ExcValue
import KE.KExcIs
import KE.KIsAll
import HandS.ExcField
import HandS.List
import HandS.Conv
import HandS.MakeKw
import HandS.MakeKwOnly
import PyProof.Draws
import PyProof.EnumMake
import PyProof.TupleIter
import PyProof.P3In
import HandS.ListItems
import HandS.SortKw
import KE.SortKeyed
import HandS.Small
import HandS.TupSets
import KE.KDictKeyed
import KE.KeyNested
import KE.DataFind
import PyProof.ReprBulk
import PySem.Challenge.RW_electkeep_k05_logs_and_records_refused
set_option Elab.async false
set_option linter.all false
set_option maxRecDepth 100000
set_option maxHeartbeats 4000000
namespace EK
open PySem PySem.Spec PyProof.Rows L2
/-- a class to compare with: of the text, or built in -/
inductive Ty where
  | own (x : Str) | blt (t : String)
def Ty.val (K : PySem.W.Frag) : Ty → Value
  | .own x => .ref (He.ga K x)
  | .blt t => .type t
inductive Fx where
  /-- an operator's def -/
  | opr (x m : Str)
  /-- != is the object's -/
  | ne (x : Str)
  /-- isinstance of an instance -/
  | isi (x : Str) (t : Ty) (b : Bool)
  | isiT (x : Str) (ts : List Ty) (b : Bool)
  /-- isinstance of built-in data -/
  | kits (u : Ty) (tbl : List (String × Bool))
  | kitsT (us : List Ty) (tbl : List (String × Bool))
  /-- a class of exceptions; isinstance of one -/
  | xcl (x : Str)
  | xis (x : Str) (t : Ty) (b : Bool)
  /-- a module's tuple of texts -/
  | tupS (x : Str) (zs : List Str)
  /-- the table of modules is an object of the heap -/
  | sysd
/-- these values are these texts -/
def strsB : List Value → List Str → Bool
  | [], [] => true
  | .str x _ :: vs, y :: ys => decide (x = y) && strsB vs ys
  | _, _ => false
def clsB (K : PySem.W.Frag) (C : Addr) : Bool :=
  He.eqO (PySem.W.findIn K (.ref C) "__class__") (some (some (.builtin "object.__class__"))) && (He.eqO (PySem.W.specialIn K (.builtin "object.__class__") "__get__") (some (some (.builtin "getset_descriptor.__get__"))) &&
    (decide (PySem.W.takesIn K (.builtin "object.__class__") = some true) && decide (PySem.W.mroIn K C (.type "object") = some true)))
def Fx.ok (K : PySem.W.Frag) : Fx → Bool
  | .opr x m => He.eqO (PySem.W.findIn K (.ref (He.ga K x)) m) (some (some (.ref (He.ma K (He.ga K x) m)))) && (PySem.W.isFn K (.ref (He.ma K (He.ga K x) m)) && PySem.W.selfFirst K (He.ga K x))
  | .ne x => He.eqO (PySem.W.findIn K (.ref (He.ga K x)) "__ne__") (some (some (.builtin "object.__ne__"))) && decide (PySem.W.subIn K (.ref (He.ga K x)) (.type "object") = some true)
  | .isi x t b => clsB K (He.ga K x) && decide (PySem.W.kitOne K (.ref (He.ga K x)) (t.val K) = some b)
  | .isiT x ts b => clsB K (He.ga K x) && decide (PySem.W.kitAny K (.ref (He.ga K x)) (ts.map (Ty.val K)) = some b)
  | .kits u tbl => tbl.all fun p => decide (PySem.W.kitOne K (.type p.1) (u.val K) = some p.2)
  | .kitsT us tbl => tbl.all fun p => decide (PySem.W.kitAny K (.type p.1) (us.map (Ty.val K)) = some p.2)
  | .xcl x => clsB K (He.ga K x) && ((PySem.W.clsIn K (He.ga K x)).isSome && (He.eqO (PySem.W.findIn K (.ref (He.ga K x)) "__getattribute__") (some (some (.builtin "BaseException.__getattribute__"))) && (He.eqO (PySem.W.findIn K (.ref (He.ga K x)) "__getattr__") (some none) &&
      (decide (PySem.W.subIn K (.ref (He.ga K x)) (.type "BaseException") = some true) && PySem.W.hasDictIn K (He.ga K x)))))
  | .xis x t b => decide (PySem.W.kitOne K (.ref (He.ga K x)) (t.val K) = some b)
  | .sysd => (match K.lookup sysModules with
    | some o => decide (o.cls = .type "dict")
    | none => false)
  | .tupS x zs => (match K.lookup (He.ga K x) with
    | some o => (match o.data with
      | .seq its _ => decide (o.cls = .type "tuple") && (decide (its.size ≤ 1000) && strsB its.toList zs)
      | _ => false)
    | none => false)
abbrev AlX : Type := He.AlD × Bool
def obsX (fa : List He.Fa) (fn : List He.DefD) (fx : List Fx) (K : PySem.W.Frag) : AlX := (He.obsD fa fn K, fx.all fun f => f.ok K)
structure SaysX (fa : List He.Fa) (fn : List He.DefD) (fx : List Fx) (K : PySem.W.Frag) : Prop where
  d : He.SaysD fa fn K
  x : (fx.all fun f => f.ok K) = true
/-- a getter: the class, the property's name, then the def -/
structure GetD where
  cls : Str
  prop : Str
  qual : Str
  params : Arguments
  body : List Stmt
  scope : Scope
def pAd (K : PySem.W.Frag) (c f : Str) : Addr := He.ma K (He.ga K c) f
def gAd (K : PySem.W.Frag) (c f : Str) : Addr := match PySem.W.recIn K (pAd K c f) "property" with
  | some (.ref g :: _) => g
  | _ => 0
def fnA (K : PySem.W.Frag) (a : Addr) : He.FnW := match K.lookup a with
  | some ⟨_, _, .func fd, _⟩ => some (fd.name, fd.qualname, fd.params, fd.body, fd.scope, fd.globals, fd.closure, fd.builtins)
  | _ => none
def GetD.val (d : GetD) : He.FnW := some (d.prop, d.qual, d.params, .stmts d.body, d.scope, mainGlobals, [], builtinsNs)
def isRef : Option (List Value) → Bool
  | some (.ref _ :: _) => true
  | _ => false
def GetD.okP (K : PySem.W.Frag) (d : GetD) : Bool := He.eqO (PySem.W.findIn K (.ref (He.ga K d.cls)) d.prop) (some (some (.ref (pAd K d.cls d.prop)))) && (He.eqO (PySem.W.specialIn K (.ref (pAd K d.cls d.prop)) "__get__") (some (some (.builtin "property.__get__"))) &&
  (decide (PySem.W.takesIn K (.ref (pAd K d.cls d.prop)) = some true) && isRef (PySem.W.recIn K (pAd K d.cls d.prop) "property")))
def GetD.okF (K : PySem.W.Frag) (d : GetD) : Bool := PySem.W.keepIn K (.ref (gAd K d.cls d.prop)) && (match K.lookup (gAd K d.cls d.prop) with
  | some ⟨_, _, .func fd, _⟩ => PySem.W.codeIn K fd.code d.qual && He.dflB K fd.defaults []
  | _ => false)
abbrev AlY : Type := AlX × Bool × List He.FnW
def obsY (fa : List He.Fa) (fn : List He.DefD) (fx : List Fx) (gt : List GetD) (K : PySem.W.Frag) : AlY := (obsX fa fn fx K, (gt.all fun d => d.okP K) && gt.all fun d => d.okF K, gt.map fun d => fnA K (gAd K d.cls d.prop))
structure SaysY (fa : List He.Fa) (fn : List He.DefD) (fx : List Fx) (gt : List GetD) (K : PySem.W.Frag) : Prop extends SaysX fa fn fx K where
  p : (gt.all fun d => d.okP K) = true
  f : (gt.all fun d => d.okF K) = true
  v : (gt.map fun d => fnA K (gAd K d.cls d.prop)) = gt.map GetD.val
structure SaysZ (fa : List He.Fa) (fn : List He.DefD) (fx : List Fx) (gt : List GetD) (tf : List He.Defn) (h : Heap) (K : PySem.W.Frag) : Prop where
  y : SaysY fa fn fx gt K
  hd : ∀ p ∈ tf, PySem.W.codeHdIn K (He.cT K p).1 (He.cT K p).2 = true
  out : ∀ p ∈ tf, K.lookup (He.cT K p).2 = none
  empty : ∀ p ∈ tf, h.get? (He.cT K p).2 = some { cls := .none, data := .fields #[] }
abbrev AlZ : Type := AlY × Bool
theorem saysZ_of {as : List Addr} {fa : List He.Fa} {fn : List He.DefD} {fx : List Fx} {gt : List GetD} {tf : List He.Defn} {h : Heap} (e : (obsY fa fn fx gt (He.frT h.get? as), He.tabsB h.get? tf (He.frT h.get? as)) = ((((He.valD fn, true), true, gt.map GetD.val), true) : AlZ)) : SaysZ fa fn fx gt tf h (He.frT h.get? as) := by
  have e1 : obsY fa fn fx gt (He.frT h.get? as) = ((He.valD fn, true), true, gt.map GetD.val) := congrArg (fun z : AlZ => z.1) e
  have e2 : He.tabsB h.get? tf (He.frT h.get? as) = true := congrArg (fun z : AlZ => z.2) e
  have ky : ∀ p ∈ tf, PySem.W.codeHdIn (He.frT h.get? as) (He.cT (He.frT h.get? as) p).1 (He.cT (He.frT h.get? as) p).2 = true ∧ ∃ o, h.get? (He.cT (He.frT h.get? as) p).2 = some o ∧ He.emptyTab o = true := fun p hp => by
    obtain ⟨u3, u4⟩ := He.ba (List.all_eq_true.mp e2 p hp)
    refine ⟨u3, ?_⟩
    cases q : h.get? (He.cT (He.frT h.get? as) p).2 with
    | none => rw [q] at u4; cases u4
    | some o => rw [q] at u4; exact ⟨o, rfl, u4⟩
  exact ⟨⟨⟨congrArg (fun z : AlY => z.1.1) e1, congrArg (fun z : AlY => z.1.2) e1⟩, (He.ba (congrArg (fun z : AlY => z.2.1) e1)).1, (He.ba (congrArg (fun z : AlY => z.2.1) e1)).2, congrArg (fun z : AlY => z.2.2) e1⟩, fun p hp => (ky p hp).1, fun p hp => by
    obtain ⟨_, o, q, z⟩ := ky p hp
    exact He.frT_none q z, fun p hp => by
    obtain ⟨_, o, q, z⟩ := ky p hp
    rw [q, He.emptyTab_eq z]⟩
structure ExcD where
  cls : Str
  fld : Str
  file : Str
  qual : Str
  params : Arguments
  body : List Stmt
  scope : Scope
def oexB (K : PySem.W.Frag) (C : Addr) : Bool := (match K.lookup C with
  | some ⟨.type t, _, .cls cd, sl⟩ => decide (t = "type") && (match cd.mro, sl.toList with
    | .ref C' :: bm, [_, _, _, _, some (.builtin n), _] => decide (C' = C) && (decide (n = "ValueError.__new__") && (!cd.hasDel && (cd.hasDict && PySem.HandSPX.refsVE bm)))
    | _, _ => false)
  | _ => false) && (He.eqO (PySem.W.findIn K (.ref C) "__setattr__") (some (some (.builtin "object.__setattr__"))) && (decide (PySem.W.subIn K (.ref C) (.type "BaseException") = some true) && (decide (PySem.W.typeIn K (.ref C) = some (.type "type")) && PySem.W.keepIn K (.ref C))))
def fileB (vs : Array Value) (file : Str) : Bool := match (vs[2]? : Option Value) with
  | some (.str f _) => decide (f = file)
  | _ => false
def initA (K : PySem.W.Frag) (c : Str) : Addr := He.ma K (He.ga K c) "__init__"
abbrev FnV : Type := Option (Str × Str × Arguments × FuncBody × Scope × Addr × List Str × Addr)
def fnV (K : PySem.W.Frag) (a : Addr) : FnV := match K.lookup a with
  | some ⟨_, _, .func fd, _⟩ => some (fd.name, fd.qualname, fd.params, fd.body, fd.scope, fd.globals, fd.closure.map (·.1), fd.builtins)
  | _ => none
def ExcD.val (d : ExcD) : FnV := some ("__init__", d.qual, d.params, .stmts d.body, d.scope, mainGlobals, ["__class__"], builtinsNs)
def ExcD.ok (K : PySem.W.Frag) (d : ExcD) : Bool := oexB K (He.ga K d.cls) && (He.eqO (PySem.W.findIn K (.ref (He.ga K d.cls)) d.fld) (some none) && (He.eqO (PySem.W.findIn K (.ref (He.ga K d.cls)) "__init__") (some (some (.ref (initA K d.cls)))) &&
  (decide (PySem.W.typeIn K (.ref (initA K d.cls)) = some (.type "function")) && (decide (PySem.W.mroIn K (He.ga K d.cls) (.ref (He.ga K d.cls)) = some true) && (decide (PySem.W.subIn K (.ref (He.ga K d.cls)) (.type "ValueError") = some true) &&
  (He.eqO (PySem.W.ks_superIn K (He.ga K d.cls) (He.ga K d.cls) "__init__") (some (some (.builtin "ValueError.__init__"))) && (He.eqO (PySem.W.nsIn K cStatics "thirdparty.any") (some none) && (He.eqO (PySem.W.nsIn K mainGlobals "super") (some none) &&
  (match K.lookup (initA K d.cls) with
    | some ⟨_, _, .func fd, _⟩ => (match fd.code, fd.closure with
      | .ref cda, [(_, cc)] => (PySem.W.codeIn K (.ref cda) d.qual && He.dflB K fd.defaults []) && ((match K.lookup cda with
        | some ⟨_, _, .fields vs, _⟩ => fileB vs d.file
        | _ => false) && (match K.lookup cc with
        | some ⟨_, _, .cell (some (.ref Q)), _⟩ => decide (Q = He.ga K d.cls)
        | _ => false))
      | _, _ => false)
    | _ => false)))))))))
structure SaysW (fa : List He.Fa) (fn : List He.DefD) (fx : List Fx) (gt : List GetD) (tf : List He.Defn) (xd : List ExcD) (h : Heap) (K : PySem.W.Frag) : Prop where
  z : SaysZ fa fn fx gt tf h K
  x : (xd.all fun d => d.ok K) = true
  v : (xd.map fun d => fnV K (initA K d.cls)) = xd.map ExcD.val
  dj : (tf.map fun p => (He.cT K p).2).Nodup
abbrev AlW : Type := AlZ × Bool × List FnV
/-- all addresses below n, the module's names first -/
def asV : Nat → List Addr → List Addr
  | 0, l => l
  | n + 1, l => asV n (n :: l)
def asR (n : Nat) : List Addr := mainGlobals :: cStatics :: asV n []
def obsV (as : List Addr) (fa : List He.Fa) (fn : List He.DefD) (fx : List Fx) (gt : List GetD) (tf : List He.Defn) (xd : List ExcD) (g : Addr → Option Obj) : AlW :=
  ((obsY fa fn fx gt (He.frT g as), He.tabsB g tf (He.frT g as)), ((xd.all fun d => d.ok (He.frT g as)) && decide ((tf.map fun p => (He.cT (He.frT g as) p).2).Nodup)), xd.map fun d => fnV (He.frT g as) (initA (He.frT g as) d.cls))
def hookV (as : List Addr) (fa : List He.Fa) (fn : List He.DefD) (fx : List Fx) (gt : List GetD) (tf : List He.Defn) (xd : List ExcD) : PySem.W.Hook where
  α := AlW
  obs := fun s => obsV as fa fn fx gt tf xd s.heap.get?
  val := fun _ => ((((He.valD fn, true), true, gt.map GetD.val), true), true, xd.map ExcD.val)
  says := fun _ h => ∃ K : PySem.W.Frag, K.In h ∧ SaysW fa fn fx gt tf xd h K
  of := fun _ s e => ⟨_, He.frT_in, saysZ_of (as := as) (congrArg (fun z : AlW => z.1) e), (He.ba (congrArg (fun z : AlW => z.2.1) e)).1, congrArg (fun z : AlW => z.2.2) e, of_decide_eq_true (He.ba (congrArg (fun z : AlW => z.2.1) e)).2⟩
  keeps := fun _ _ _ ⟨K, hK, c⟩ k => ⟨K, PySem.W.Frag.In.keeps hK k, ⟨⟨c.z.y, c.z.hd, c.z.out, fun p hp => k _ _ (c.z.empty p hp)⟩, c.x, c.v, c.dj⟩⟩
theorem obsV_eq {as : List Addr} {fa : List He.Fa} {fn : List He.DefD} {fx : List Fx} {gt : List GetD} {tf : List He.Defn} {xd : List ExcD} {g : Addr → Option Obj} {s : Shared} (h : ∀ a, g a = s.heap.get? a) : obsV as fa fn fx gt tf xd g = (hookV as fa fn fx gt tf xd).obs s := by
  have e : g = s.heap.get? := funext h
  rw [e] <;> rfl
end EK


namespace K05
open PySem PySem.Spec PyProof.Rows L2 EK
abbrev pr := PySem.Challenge.pw_electkeep_k05_logs_and_records_refused
abbrev P : Program := PySem.W.OpenLaw.prog PySem.Challenge.rw_electkeep_k05_logs_and_records_refused
def topS (i : Nat) : Stmt := pr.main.body.getD i (.Pass ⟨0, 0, 0, 0⟩)
def clsS (i j : Nat) : Stmt := (match topS i with | .ClassDef _ _ _ b _ _ _ _ _ _ _ => b | _ => []).getD j (.Pass ⟨0, 0, 0, 0⟩)
abbrev s_law_mixed : Stmt := topS 35
abbrev s_law_take : Stmt := topS 36
abbrev s_law_pick : Stmt := topS 37
abbrev s_law_word_pair : Stmt := topS 41
abbrev s_law_noted : Stmt := topS 42
abbrev s_is_of : Stmt := topS 14
abbrev s_Hand___init__ : Stmt := clsS 15 0
abbrev s_law_bent_note : Stmt := topS 46
abbrev s_law_bent : Stmt := topS 47
abbrev s_law_is_number : Stmt := topS 39
abbrev s_law_is_name : Stmt := topS 40
abbrev s_law_is_note : Stmt := topS 43
abbrev s_law_are_notes : Stmt := topS 44
abbrev s_law_is_tape : Stmt := topS 45
abbrev s_law_does_fit : Stmt := topS 48
abbrev s_law_word : Stmt := topS 49
abbrev s_is_number : Stmt := topS 9
abbrev s_is_term : Stmt := topS 18
abbrev s_is_name : Stmt := topS 10
abbrev s_is_pair : Stmt := topS 19
abbrev s_is_record : Stmt := topS 20
abbrev s_fits : Stmt := topS 21
abbrev s_are_records : Stmt := topS 22
abbrev s_is_log : Stmt := topS 23
abbrev s_need_log : Stmt := topS 24
abbrev s_written_by : Stmt := topS 25
abbrev s_written : Stmt := topS 27
abbrev s_leavings : Stmt := topS 28
abbrev s_can_leave : Stmt := topS 29
abbrev s_fallen : Stmt := topS 30
abbrev s_read_of : Stmt := topS 26
abbrev s_read : Stmt := topS 31
abbrev s_may_forget : Stmt := topS 32
abbrev s_law_full_right : Stmt := topS 50
abbrev s_law : Stmt := topS 51
def d_law_mixed : He.DefD := ⟨("_law_mixed", none), "_law_mixed", "_law_mixed", defArgs s_law_mixed, defBody s_law_mixed, defScope s_law_mixed, [], []⟩
def d_law_take : He.DefD := ⟨("_law_take", none), "_law_take", "_law_take", defArgs s_law_take, defBody s_law_take, defScope s_law_take, [], []⟩
def d_law_pick : He.DefD := ⟨("_law_pick", none), "_law_pick", "_law_pick", defArgs s_law_pick, defBody s_law_pick, defScope s_law_pick, [], []⟩
def d_law_word_pair : He.DefD := ⟨("_law_word_pair", none), "_law_word_pair", "_law_word_pair", defArgs s_law_word_pair, defBody s_law_word_pair, defScope s_law_word_pair, [], []⟩
def d_law_noted : He.DefD := ⟨("_law_noted", none), "_law_noted", "_law_noted", defArgs s_law_noted, defBody s_law_noted, defScope s_law_noted, [], []⟩
def d_is_of : He.DefD := ⟨("is_of", none), "is_of", "is_of", defArgs s_is_of, defBody s_is_of, defScope s_is_of, [], []⟩
def d_Hand___init__ : He.DefD := ⟨("Hand", some "__init__"), "__init__", "Hand.__init__", defArgs s_Hand___init__, defBody s_Hand___init__, defScope s_Hand___init__, [.str "at once"], []⟩
def d_law_bent_note : He.DefD := ⟨("_law_bent_note", none), "_law_bent_note", "_law_bent_note", defArgs s_law_bent_note, defBody s_law_bent_note, defScope s_law_bent_note, [], []⟩
def d_law_bent : He.DefD := ⟨("_law_bent", none), "_law_bent", "_law_bent", defArgs s_law_bent, defBody s_law_bent, defScope s_law_bent, [], []⟩
def d_law_is_number : He.DefD := ⟨("_law_is_number", none), "_law_is_number", "_law_is_number", defArgs s_law_is_number, defBody s_law_is_number, defScope s_law_is_number, [], []⟩
def d_law_is_name : He.DefD := ⟨("_law_is_name", none), "_law_is_name", "_law_is_name", defArgs s_law_is_name, defBody s_law_is_name, defScope s_law_is_name, [], []⟩
def d_law_is_note : He.DefD := ⟨("_law_is_note", none), "_law_is_note", "_law_is_note", defArgs s_law_is_note, defBody s_law_is_note, defScope s_law_is_note, [], []⟩
def d_law_are_notes : He.DefD := ⟨("_law_are_notes", none), "_law_are_notes", "_law_are_notes", defArgs s_law_are_notes, defBody s_law_are_notes, defScope s_law_are_notes, [], []⟩
def d_law_is_tape : He.DefD := ⟨("_law_is_tape", none), "_law_is_tape", "_law_is_tape", defArgs s_law_is_tape, defBody s_law_is_tape, defScope s_law_is_tape, [], []⟩
def d_law_does_fit : He.DefD := ⟨("_law_does_fit", none), "_law_does_fit", "_law_does_fit", defArgs s_law_does_fit, defBody s_law_does_fit, defScope s_law_does_fit, [], []⟩
def d_law_word : He.DefD := ⟨("_law_word", none), "_law_word", "_law_word", defArgs s_law_word, defBody s_law_word, defScope s_law_word, [], []⟩
def d_is_number : He.DefD := ⟨("is_number", none), "is_number", "is_number", defArgs s_is_number, defBody s_is_number, defScope s_is_number, [], []⟩
def d_is_term : He.DefD := ⟨("is_term", none), "is_term", "is_term", defArgs s_is_term, defBody s_is_term, defScope s_is_term, [], []⟩
def d_is_name : He.DefD := ⟨("is_name", none), "is_name", "is_name", defArgs s_is_name, defBody s_is_name, defScope s_is_name, [], []⟩
def d_is_pair : He.DefD := ⟨("is_pair", none), "is_pair", "is_pair", defArgs s_is_pair, defBody s_is_pair, defScope s_is_pair, [], []⟩
def d_is_record : He.DefD := ⟨("is_record", none), "is_record", "is_record", defArgs s_is_record, defBody s_is_record, defScope s_is_record, [], []⟩
def d_fits : He.DefD := ⟨("fits", none), "fits", "fits", defArgs s_fits, defBody s_fits, defScope s_fits, [], []⟩
def d_are_records : He.DefD := ⟨("are_records", none), "are_records", "are_records", defArgs s_are_records, defBody s_are_records, defScope s_are_records, [], []⟩
def d_is_log : He.DefD := ⟨("is_log", none), "is_log", "is_log", defArgs s_is_log, defBody s_is_log, defScope s_is_log, [], []⟩
def d_need_log : He.DefD := ⟨("need_log", none), "need_log", "need_log", defArgs s_need_log, defBody s_need_log, defScope s_need_log, [], []⟩
def d_written_by : He.DefD := ⟨("written_by", none), "written_by", "written_by", defArgs s_written_by, defBody s_written_by, defScope s_written_by, [], []⟩
def d_written : He.DefD := ⟨("written", none), "written", "written", defArgs s_written, defBody s_written, defScope s_written, [], []⟩
def d_leavings : He.DefD := ⟨("leavings", none), "leavings", "leavings", defArgs s_leavings, defBody s_leavings, defScope s_leavings, [], []⟩
def d_can_leave : He.DefD := ⟨("can_leave", none), "can_leave", "can_leave", defArgs s_can_leave, defBody s_can_leave, defScope s_can_leave, [], []⟩
def d_fallen : He.DefD := ⟨("fallen", none), "fallen", "fallen", defArgs s_fallen, defBody s_fallen, defScope s_fallen, [], []⟩
def d_read_of : He.DefD := ⟨("read_of", none), "read_of", "read_of", defArgs s_read_of, defBody s_read_of, defScope s_read_of, [], []⟩
def d_read : He.DefD := ⟨("read", none), "read", "read", defArgs s_read, defBody s_read, defScope s_read, [], []⟩
def d_may_forget : He.DefD := ⟨("may_forget", none), "may_forget", "may_forget", defArgs s_may_forget, defBody s_may_forget, defScope s_may_forget, [], []⟩
def d_law_full_right : He.DefD := ⟨("_law_full_right", none), "_law_full_right", "_law_full_right", defArgs s_law_full_right, defBody s_law_full_right, defScope s_law_full_right, [], []⟩
def d_law : He.DefD := ⟨("law", none), "law", "law", defArgs s_law, defBody s_law, defScope s_law, [], []⟩
abbrev s_law_begun : Stmt := topS 34
abbrev N_law_begun : List Str := ["_law_script", "_law_wide", "_law_grain"]
theorem sc_law_begun : FnScope N_law_begun ["_law_script"] (defScope s_law_begun) := ⟨rfl, rfl, rfl, by decide +kernel, rfl, by decide +kernel, by decide +kernel⟩
def d_law_begun : He.DefD := ⟨("_law_begun", none), "_law_begun", "_law_begun", defArgs s_law_begun, defBody s_law_begun, defScope s_law_begun, [], []⟩
abbrev s_law_caught : Stmt := topS 38
theorem sc_law_caught : FnScope ["_law_job", "_law_caught_here", "_law_error"] ["_law_job"] (defScope s_law_caught) := ⟨rfl, rfl, rfl, by decide +kernel, rfl, by decide +kernel, by decide +kernel⟩
def d_law_caught : He.DefD := ⟨("_law_caught", none), "_law_caught", "_law_caught", defArgs s_law_caught, defBody s_law_caught, defScope s_law_caught, [], []⟩
def gt : List GetD := []
def fn : List He.DefD := [d_law_mixed, d_law_take, d_law_pick, d_law_word_pair, d_law_noted, d_is_of, d_Hand___init__, d_law_bent_note, d_law_bent, d_law_is_number, d_law_is_name, d_law_is_note, d_law_are_notes, d_law_is_tape, d_law_does_fit, d_law_word, d_is_number, d_is_term, d_is_name, d_is_pair, d_is_record, d_fits, d_are_records, d_is_log, d_need_log, d_written_by, d_written, d_leavings, d_can_leave, d_fallen, d_read_of, d_read, d_may_forget, d_law_full_right, d_law, d_law_begun, d_law_caught]
def fa : List He.Fa := [.free "abs", .free "int", .glo "_law_begun", .free "len", .free "min", .free "range", .glo "_law_mixed", .glo "_law_take", .glo "_law_pick", .glo "_law_word_pair", .glo "_law_noted", .glo "WORDS", .glo "BACKS", .free "str", .free "isinstance", .glo "is_of", .glo "BadHand", .glo "Hand", .cls "Hand", .noat "Hand" "own_promise", .noat "Hand" "own_entry", .noat "Hand" "own_back", .mkr "Hand", .free "list", .glo "_law_bent_note", .glo "_law_bent", .free "tuple", .free "bool", .glo "_law_is_number", .glo "_law_is_name", .glo "_law_is_note", .free "enumerate", .glo "_law_are_notes", .glo "_law_is_tape", .glo "_law_does_fit", .glo "BadRecord", .glo "BadLog", .glo "BadLeft", .noat "BadHand" "part", .noat "BadLeft" "left", .glo "_law_word", .glo "_law_caught", .glo "KeepError", .exm "BadHand" "KeepError" true, .exm "BadLeft" "KeepError" true, .exm "BadLog" "KeepError" true, .exm "BadRecord" "KeepError" true, .glo "is_number", .int "MOST_TERM" 99, .glo "is_term", .str "LETTERS" "abcdefghijklmnopqrstuvwxyz", .free "all", .glo "is_name", .glo "is_pair", .glo "is_record", .glo "fits", .glo "are_records", .glo "is_log", .exc "BadLog", .glo "need_log", .exc "BadRecord", .glo "written_by", .glo "written", .glo "leavings", .glo "can_leave", .glo "fallen", .free "repr", .free "max", .glo "read_of", .glo "read", .glo "may_forget", .glo "_law_full_right", .glo "law"]
def fx : List Fx := [.tupS "WORDS" ["none", "lazy", "forced"], .tupS "BACKS" ["at once", "barred"], .kits (.blt "str") [("NoneType", false), ("bool", false), ("int", false), ("str", true), ("tuple", false), ("list", false), ("dict", false)], .kits (.own "Hand") [("NoneType", false), ("bool", false), ("int", false), ("str", false), ("tuple", false), ("list", false), ("dict", false)], .isi "Hand" (.own "Hand") true, .kits (.blt "tuple") [("NoneType", false), ("bool", false), ("int", false), ("str", false), ("tuple", true), ("list", false), ("dict", false)], .kits (.blt "int") [("NoneType", false), ("bool", true), ("int", true), ("str", false), ("tuple", false), ("list", false), ("dict", false)], .kits (.blt "bool") [("NoneType", false), ("bool", true), ("int", false), ("str", false), ("tuple", false), ("list", false), ("dict", false)], .kits (.own "BadHand") [("NoneType", false), ("bool", false), ("int", false), ("str", false), ("tuple", false), ("list", false), ("dict", false)], .xis "BadRecord" (.own "BadHand") false, .xcl "BadRecord", .xis "BadLog" (.own "BadHand") false, .xcl "BadLog", .xis "BadLeft" (.own "BadHand") false, .xcl "BadLeft", .xis "BadHand" (.own "BadHand") true, .xcl "BadHand", .kits (.own "BadLeft") [("NoneType", false), ("bool", false), ("int", false), ("str", false), ("tuple", false), ("list", false), ("dict", false)], .xis "BadRecord" (.own "BadLeft") false, .xis "BadLog" (.own "BadLeft") false, .xis "BadLeft" (.own "BadLeft") true, .xis "BadHand" (.own "BadLeft") false, .kits (.own "BadLog") [("NoneType", false), ("bool", false), ("int", false), ("str", false), ("tuple", false), ("list", false), ("dict", false)], .xis "BadRecord" (.own "BadLog") false, .xis "BadLog" (.own "BadLog") true, .xis "BadLeft" (.own "BadLog") false, .xis "BadHand" (.own "BadLog") false, .kits (.own "BadRecord") [("NoneType", false), ("bool", false), ("int", false), ("str", false), ("tuple", false), ("list", false), ("dict", false)], .xis "BadRecord" (.own "BadRecord") true, .xis "BadLog" (.own "BadRecord") false, .xis "BadLeft" (.own "BadRecord") false, .xis "BadHand" (.own "BadRecord") false]
def tf : List He.Defn := [("law", none), ("_law_full_right", none)]
def lamN (p : He.Defn) : Str := (p.1 ++ ".<locals>.") ++ "<lambda>"
abbrev s_x_BadHand : Stmt := clsS 3 0
def xd_BadHand : ExcD := ⟨"BadHand", "part", P.main.file, "BadHand.__init__", defArgs s_x_BadHand, defBody s_x_BadHand, defScope s_x_BadHand⟩
abbrev s_x_BadLeft : Stmt := clsS 6 0
def xd_BadLeft : ExcD := ⟨"BadLeft", "left", P.main.file, "BadLeft.__init__", defArgs s_x_BadLeft, defBody s_x_BadLeft, defScope s_x_BadLeft⟩
def xd : List ExcD := [xd_BadHand, xd_BadLeft]
abbrev R : PySem.W.OpenRow := PySem.W.OpenLaw.row PySem.Challenge.rw_electkeep_k05_logs_and_records_refused
def frs : List Addr := mainGlobals :: cStatics :: ([300, 299, 307, 306, 314, 313, 340, 339, 347, 346, 121, 120, 136, 135, 373, 372, 380, 379, 328, 327, 333, 332, 354, 353, 359, 358, 366, 365, 385, 384, 392, 391, 107, 106, 196, 195, 112, 111, 203, 202, 210, 209, 215, 214, 220, 219, 227, 226, 234, 233, 241, 240, 255, 254, 262, 261, 269, 268, 276, 275, 248, 247, 283, 282, 288, 287, 397, 396, 404, 403, 293, 292, 321, 320] ++ EK.asV 405 [])
abbrev hk : PySem.W.Hook := hookV frs fa fn fx gt tf xd
def ob (s : PySem.W.SharedT) : AlW := obsV frs fa fn fx gt tf xd (HandSHeadRun.getT s)
theorem ob_eq (s : PySem.W.SharedT) : ob s = hk.obs s.abs := obsV_eq (HandSHeadRun.getT_eq s)
def names0 : List Str := ["_wall", "__name__", "KeepError", "BadHand", "BadLog", "BadRecord", "BadLeft", "LETTERS", "is_number", "is_name", "WORDS", "BACKS", "is_of", "Hand", "MOST_TERM", "is_term", "is_pair", "is_record", "fits", "are_records"]
def names1 : List Str := ["is_log", "need_log", "written_by", "read_of", "written", "leavings", "can_leave", "fallen", "read", "may_forget", "_law_begun", "_law_mixed", "_law_take", "_law_pick", "_law_caught", "_law_is_number", "_law_is_name", "_law_word_pair", "_law_noted", "_law_is_note"]
def names2 : List Str := ["_law_are_notes", "_law_is_tape", "_law_bent_note", "_law_bent", "_law_does_fit", "_law_word", "_law_full_right"]
def names : List Str := names0 ++ names1 ++ names2
set_option maxHeartbeats 0 in
theorem run (w : World) : HandSHeadRun.RunEq R (PySem.W.view R.prog [51]) hk ob 30000 names w := by
  intro os
  kernel_rfl
end K05


namespace EK
open PySem PySem.Spec PyProof.Rows L2

section
variable {P : Program} {w : World} {κ : Type} [DecidableEq κ] (knd : KeyKind P w κ)
/-- the set at a holds the keys ks, each once; it can be walked -/
def SetG (h : Heap) (a : Addr) (ks : List κ) : Prop :=
  ∃ o es ep t, h.get? a = some o ∧ o.ExactSet ∧ o.data = .set es ep t ∧ ElemsOf knd es.toList ∧ (∃ l, l.Perm ks ∧ PySem.W.EachIs (fun e k => knd.is k e.2 = true) es.toList l) ∧ ks.Nodup ∧
    es.size < scanBound ∧ t.fits es.size = true ∧ Ris t.place.toList ∧ (w.params.followText "set-order" = true ∨ t.led = true)
/-- one more key -/
def addK (ks : List κ) (k : κ) : List κ := if k ∈ ks then ks else ks ++ [k]
def dedupK (xs : List κ) : List κ := xs.foldl addK []
variable {knd}
theorem SetG.at {h h' : Heap} {a : Addr} {ks : List κ} (R : SetG knd h a ks) (k : ∀ o, h.get? a = some o → h'.get? a = some o) : SetG knd h' a ks := by
  obtain ⟨o, es, ep, t, ho, r⟩ := R
  exact ⟨o, es, ep, t, k o ho, r⟩
theorem addK_nodup {ks : List κ} {k : κ} (h : ks.Nodup) : (addK ks k).Nodup := by
  unfold addK
  split
  · exact h
  · rename_i hn
    exact List.nodup_append.mpr ⟨h, List.nodup_cons.mpr ⟨by simp, List.nodup_nil⟩, fun a ha b hb => by
      rw [List.mem_singleton.mp hb]
      exact fun e => hn (e ▸ ha)⟩
variable {A : Around} {E : Value → Shared → Prop} {s : Shared} {a : Addr}
@[reducible] def newSet (w : World) : Obj := { cls := .type "set", dict := none, data := .set #[] 0 (.fresh 0 0 (!w.params.followText "set-order")) }
theorem each_get {α β : Type} {R : α → β → Prop} : ∀ {l : List α} {ks : List β}, PySem.W.EachIs R l ks → ∀ (i : Nat) (v : α), l[i]? = some v → ∃ k, ks[i]? = some k ∧ R v k
  | _, _, .nil, i, v, h => by simp at h
  | _, _, .cons h1 t, 0, v, h => by simp at h; subst h; exact ⟨_, rfl, h1⟩
  | _, _, .cons h1 t, i + 1, v, h => by
    simp only [List.getElem?_cons_succ] at h ⊢
    exact each_get t i v h

end
end EK


namespace EK
open PySem PySem.Spec PyProof.Rows L2

/-- plain data -/
inductive D where
  | non | bl (b : Bool) | int (i : Int) | str (x : Str)
  | tup (xs : List D) | lst (xs : List D)
  /-- an instance of the class c: its attributes by name -/
  | obj (c : Str) (ns : List Str) (xs : List D)
  /-- the drawing object -/
  | drw
  /-- the script -/
  | scr (xs : List Int)
  /-- a dict with numbers and texts as keys; one with tuples of these -/
  | dct (ks : List L2.Key) (xs : List D)
  | dcT (ks : List (List L2.Key)) (xs : List D)
  /-- a caught exception of the class c: its attributes by name -/
  | exc (c : Str) (ns : List Str) (xs : List D)

/-- where the drawing object stands: the dict, its list of wide numbers, its list of cells -/
structure Dr where
  a : Addr
  w : Addr
  c : Addr
  /-- the instance that __init__ fills, its dict -/
  o : Addr
  ox : Addr
  /-- the tables of code objects of those that make lambdas, with the lambdas' name -/
  tabs : List (Addr × Str)
def Dr.has (dl : Dr) (b : Addr) : Prop := b = dl.a ∨ b = dl.w ∨ b = dl.c ∨ ∃ q, (b, q) ∈ dl.tabs
/-- a caught exception at a: its class, its own dict -/
def ExK (a : Addr) (cls : Value) (d : Option Addr) : HO := .ext fun h => ∃ (oe : Obj) (vs : Array Value), h.get? a = some oe ∧ Zc cls d oe ∧ oe.data = .fields vs
/-- the drawing state -/
structure DS where
  wide : List Int
  cells : List Int
  rest : Int
  turn : Int

section
variable (K : PySem.W.Frag) (mg : Str → Option Value) (dl : Dr) (F : Hp)
mutual
def Rep : D → V → Prop
  | .non, v => v = .non
  | .bl b, v => v = .bl b
  | .int i, v => v = .int i
  | .str x, v => v = .str x
  | .tup xs, v => ∃ (a : Addr) (vs : List V), v = .ref a ∧ SqT K F a vs ∧ vs.length ≤ sizeLine ∧ RepL xs vs
  | .lst xs, v => ∃ (a : Addr) (vs : List V), v = .ref a ∧ F a = some (.lst vs) ∧ vs.length ≤ sizeLine ∧ RepL xs vs
  | .obj c ns xs, v => ∃ (a dx C : Addr) (vs : List V), v = .ref a ∧ mg c = some (.ref C) ∧ F a = some (.ins C dx (ns.zip vs)) ∧ F dx = some (.own a) ∧ ns.length = vs.length ∧ RepL xs vs
  | .drw, v => v = .ref dl.a
  | .scr xs, v => ∃ a : Addr, v = .ref a ∧ SqL K F a (xs.map V.int) ∧ xs.length ≤ 63
  | .dct ks xs, v => ∃ (a : Addr) (o : Obj) (vs : List V), v = .ref a ∧ F a = some (.frz o (.dK (ks.zip vs))) ∧ ks.length = vs.length ∧ (ks.length ≤ 1000 ∧ ks.Nodup) ∧ RepL xs vs
  | .dcT ks xs, v => ∃ (a : Addr) (o : Obj) (vs : List V), v = .ref a ∧ F a = some (.frz o (.dT (ks.zip vs))) ∧ ks.length = vs.length ∧ (ks.length ≤ 1000 ∧ ks.Nodup) ∧ RepL xs vs
  | .exc c ns xs, v => ∃ (a C : Addr) (vs : List V), v = .ref a ∧ mg c = some (.ref C) ∧ ns.length = vs.length ∧ ((ns = [] ∧ F a = some (ExK a (.ref C) none)) ∨ ∃ d, ns ≠ [] ∧ F a = some (ExK a (.ref C) (some d)) ∧ F d = some (.xd (ns.zip vs))) ∧ RepL xs vs
def RepL : List D → List V → Prop
  | [], vs => vs = []
  | d :: ds, vs => ∃ (v : V) (vs' : List V), vs = v :: vs' ∧ Rep d v ∧ RepL ds vs'
end
end

theorem Same.seqT {K : PySem.W.Frag} {H H' : Hp} {a : Addr} {xs : List V} (e : Same H H') (h : SqT K H a xs) : SqT K H' a xs := by
  rcases h with (h | ⟨o, h⟩) | h
  · exact .inl (.inl (e _ _ h))
  · exact .inl (.inr ⟨o, e _ _ h⟩)
  · exact .inr h

section
variable {K : PySem.W.Frag} {mg : Str → Option Value} {dl : Dr} {F F' : Hp}
mutual
theorem Rep.mono (e : Same F F') : ∀ (d : D) (v : V), Rep K mg dl F d v → Rep K mg dl F' d v
  | .non, _, h => h
  | .bl _, _, h => h
  | .int _, _, h => h
  | .str _, _, h => h
  | .drw, _, h => h
  | .scr xs, v, h => by
    obtain ⟨a, h1, h2, h3⟩ := h
    exact ⟨a, h1, L2.Same.seq e h2, h3⟩
  | .tup xs, v, h => by
    obtain ⟨a, vs, h1, h2, h3, h4⟩ := h
    exact ⟨a, vs, h1, Same.seqT e h2, h3, RepL.mono e xs vs h4⟩
  | .lst xs, v, h => by
    obtain ⟨a, vs, h1, h2, h3, h4⟩ := h
    exact ⟨a, vs, h1, e _ _ h2, h3, RepL.mono e xs vs h4⟩
  | .obj c ns xs, v, h => by
    obtain ⟨a, dx, C, vs, h1, h2, h3, h4, h5, h6⟩ := h
    exact ⟨a, dx, C, vs, h1, h2, e _ _ h3, e _ _ h4, h5, RepL.mono e xs vs h6⟩
  | .dct ks xs, v, h => by
    obtain ⟨a, o, vs, h1, h2, h3, h4, h5⟩ := h
    exact ⟨a, o, vs, h1, e _ _ h2, h3, h4, RepL.mono e xs vs h5⟩
  | .dcT ks xs, v, h => by
    obtain ⟨a, o, vs, h1, h2, h3, h4, h5⟩ := h
    exact ⟨a, o, vs, h1, e _ _ h2, h3, h4, RepL.mono e xs vs h5⟩
  | .exc c ns xs, v, h => by
    obtain ⟨a, C, vs, h1, h2, h3, h4, h5⟩ := h
    refine ⟨a, C, vs, h1, h2, h3, ?_, RepL.mono e xs vs h5⟩
    rcases h4 with ⟨q1, q2⟩ | ⟨d, q1, q2, q3⟩
    · exact .inl ⟨q1, e _ _ q2⟩
    · exact .inr ⟨d, q1, e _ _ q2, e _ _ q3⟩
theorem RepL.mono (e : Same F F') : ∀ (ds : List D) (vs : List V), RepL K mg dl F ds vs → RepL K mg dl F' ds vs
  | [], _, h => h
  | d :: ds, vs, h => by
    obtain ⟨v, vs', h1, h2, h3⟩ := h
    exact ⟨v, vs', h1, Rep.mono e d v h2, RepL.mono e ds vs' h3⟩
end
mutual
theorem Rep.dl {dl' : Dr} (h : dl.a = dl'.a) : ∀ (d : D) (v : V), Rep K mg dl F d v → Rep K mg dl' F d v
  | .non, _, h => h
  | .bl _, _, h => h
  | .int _, _, h => h
  | .str _, _, h => h
  | .drw, v, q => by
    have q : v = .ref dl.a := q
    show v = .ref dl'.a
    rw [← h]; exact q
  | .scr xs, v, q => q
  | .tup xs, v, q => by
    obtain ⟨a, vs, h1, h2, h3, h4⟩ := q
    exact ⟨a, vs, h1, h2, h3, RepL.dl h xs vs h4⟩
  | .lst xs, v, q => by
    obtain ⟨a, vs, h1, h2, h3, h4⟩ := q
    exact ⟨a, vs, h1, h2, h3, RepL.dl h xs vs h4⟩
  | .obj c ns xs, v, q => by
    obtain ⟨a, dx, C, vs, h1, h2, h3, h4, h5, h6⟩ := q
    exact ⟨a, dx, C, vs, h1, h2, h3, h4, h5, RepL.dl h xs vs h6⟩
  | .dct ks xs, v, q => by
    obtain ⟨a, o, vs, h1, h2, h3, h4, h5⟩ := q
    exact ⟨a, o, vs, h1, h2, h3, h4, RepL.dl h xs vs h5⟩
  | .dcT ks xs, v, q => by
    obtain ⟨a, o, vs, h1, h2, h3, h4, h5⟩ := q
    exact ⟨a, o, vs, h1, h2, h3, h4, RepL.dl h xs vs h5⟩
  | .exc c ns xs, v, q => by
    obtain ⟨a, C, vs, h1, h2, h3, h4, h5⟩ := q
    exact ⟨a, C, vs, h1, h2, h3, h4, RepL.dl h xs vs h5⟩
theorem RepL.dl {dl' : Dr} (h : dl.a = dl'.a) : ∀ (ds : List D) (vs : List V), RepL K mg dl F ds vs → RepL K mg dl' F ds vs
  | [], _, h => h
  | d :: ds, vs, q => by
    obtain ⟨v, vs', h1, h2, h3⟩ := q
    exact ⟨v, vs', h1, Rep.dl h d v h2, RepL.dl h ds vs' h3⟩
end
theorem RepL.length : ∀ {ds : List D} {vs : List V}, RepL K mg dl F ds vs → ds.length = vs.length
  | [], _, h => by have h : _ = [] := h; rw [h]; rfl
  | d :: ds, vs, h => by
    obtain ⟨v, vs', h1, h2, h3⟩ := h
    rw [h1, List.length_cons, List.length_cons, RepL.length h3]
theorem RepL.get : ∀ {ds : List D} {vs : List V} {i : Nat} {d : D}, RepL K mg dl F ds vs → ds[i]? = some d → ∃ v, vs[i]? = some v ∧ Rep K mg dl F d v
  | [], _, _, _, _, e => by simp at e
  | _ :: _, _, 0, _, h, e => by
    obtain ⟨v, vs', h1, h2, h3⟩ := h
    simp at e; subst e; subst h1
    exact ⟨v, rfl, h2⟩
  | _ :: ds, _, i + 1, d, h, e => by
    obtain ⟨v, vs', h1, h2, h3⟩ := h
    subst h1
    obtain ⟨u, q1, q2⟩ := RepL.get (i := i) (d := d) h3 (by simpa using e)
    exact ⟨u, by simpa using q1, q2⟩
theorem RepL.get' : ∀ {ds : List D} {vs : List V} {i : Nat} {v : V}, RepL K mg dl F ds vs → vs[i]? = some v → ∃ d, ds[i]? = some d ∧ Rep K mg dl F d v
  | [], vs, _, _, h, e => by have h : vs = [] := h; subst h; simp at e
  | _ :: _, _, 0, _, h, e => by
    obtain ⟨v, vs', h1, h2, h3⟩ := h
    subst h1
    simp at e; subst e
    exact ⟨_, rfl, h2⟩
  | _ :: ds, _, i + 1, d, h, e => by
    obtain ⟨v, vs', h1, h2, h3⟩ := h
    subst h1
    obtain ⟨u, q1, q2⟩ := RepL.get' (i := i) h3 (by simpa using e)
    exact ⟨u, by simpa using q1, q2⟩
theorem RepL.append : ∀ {ds es : List D} {vs ws : List V}, RepL K mg dl F ds vs → RepL K mg dl F es ws → RepL K mg dl F (ds ++ es) (vs ++ ws)
  | [], _, _, _, h, h' => by have h : _ = [] := h; subst h; exact h'
  | d :: ds, es, _, ws, h, h' => by
    obtain ⟨v, vs', h1, h2, h3⟩ := h
    subst h1
    exact ⟨v, vs' ++ ws, rfl, h2, RepL.append h3 h'⟩
theorem RepL.nil : RepL K mg dl F [] [] := rfl
theorem RepL.cons {d : D} {ds : List D} {v : V} {vs : List V} (h : Rep K mg dl F d v) (t : RepL K mg dl F ds vs) : RepL K mg dl F (d :: ds) (v :: vs) := ⟨v, vs, rfl, h, t⟩
theorem RepL.take : ∀ {ds : List D} {vs : List V} (n : Nat), RepL K mg dl F ds vs → RepL K mg dl F (ds.take n) (vs.take n)
  | _, _, 0, _ => rfl
  | [], vs, n + 1, h => by have h : vs = [] := h; subst h; rfl
  | d :: ds, vs, n + 1, h => by
    obtain ⟨v, vs', h1, h2, h3⟩ := h
    subst h1
    exact ⟨v, vs'.take n, rfl, h2, RepL.take n h3⟩
theorem RepL.drop : ∀ {ds : List D} {vs : List V} (n : Nat), RepL K mg dl F ds vs → RepL K mg dl F (ds.drop n) (vs.drop n)
  | _, _, 0, h => h
  | [], vs, n + 1, h => by have h : vs = [] := h; subst h; rfl
  | d :: ds, vs, n + 1, h => by
    obtain ⟨v, vs', h1, h2, h3⟩ := h
    subst h1
    exact RepL.drop n h3
end

/-- an exception: its class, its attributes by name -/
structure Exn where
  cls : Str
  ns : List Str
  xs : List D
inductive Res (α : Type) where
  | ok (a : α) | err (x : Exn)
abbrev M (α : Type) := DS → Option (Res α × DS)
def ret {α : Type} (a : α) : M α := fun s => some (.ok a, s)
def fail {α : Type} : M α := fun _ => none
def throw {α : Type} (x : Exn) : M α := fun s => some (.err x, s)
def bnd {α β : Type} (m : M α) (k : α → M β) : M β := fun s => match m s with
  | none => none
  | some (.ok a, s') => k a s'
  | some (.err x, s') => some (.err x, s')
@[simp] theorem bnd_ret {α β : Type} (a : α) (k : α → M β) : bnd (ret a) k = k a := rfl
@[simp] theorem bnd_fail {α β : Type} (k : α → M β) : bnd (fail : M α) k = fail := rfl
theorem bnd_assoc {α β γ : Type} (m : M α) (k : α → M β) (l : β → M γ) : bnd (bnd m k) l = bnd m fun a => bnd (k a) l := by
  funext s
  unfold bnd
  cases m s with
  | none => rfl
  | some p => obtain ⟨r, s'⟩ := p; cases r <;> rfl
/-- an option as a computation -/
def ofO {α : Type} : Option α → M α
  | none => fail
  | some a => ret a
@[simp] theorem ofO_some {α : Type} (a : α) : ofO (some a) = ret a := rfl
@[simp] theorem ofO_none {α : Type} : ofO (none : Option α) = fail := rfl
/-- what is raised cannot be (within a comprehension) -/
def noErr {α : Type} (m : M α) : M α := fun s => match m s with
  | some (.ok a, s') => some (.ok a, s')
  | _ => none
@[simp] theorem noErr_ret {α : Type} (a : α) : noErr (ret a) = ret a := rfl

def DrawOk (dl : Dr) (H : Hp) (s : DS) : Prop :=
  H dl.a = some (.dK [(Sum.inr "wide", .ref dl.w), (Sum.inr "cells", .ref dl.c), (Sum.inr "rest", .int s.rest), (Sum.inr "turn", .int s.turn)]) ∧
    H dl.w = some (.lst (s.wide.map V.int)) ∧ H dl.c = some (.lst (s.cells.map V.int)) ∧ dl.w ≠ dl.c
/-- neither a table nor a code object -/
def NotTbl (o : HO) : Prop := ∀ ps, o ≠ .tbl ps
def NotCode (o : HO) : Prop := ∀ c q, o ≠ LamX.CodeO c q
/-- the tables of code objects: what they tell never changes; there are no others -/
structure TabF (T : List (Addr × Str)) (F H : Hp) : Prop where
  at_ : ∀ p ∈ T, ∃ ps : Array Value, H p.1 = some (.tbl ps) ∧ TriplesOk ps.toList ∧ ∀ (pos : Pos) (cv : Value), codeAmong pos ps.toList = some cv → ∃ c, cv = .ref c ∧ F c = some (LamX.CodeO c p.2)
  nt : ∀ b ps, H b = some (.tbl ps) → ∃ q, (b, q) ∈ T
  cd : ∀ b c q, H b = some (LamX.CodeO c q) → F b = some (LamX.CodeO c q)
theorem TabF.mono {T : List (Addr × Str)} {F F' H H' : Hp} (t : TabF T F H) (e : Same F F') (k : ∀ p ∈ T, ∀ ps, H p.1 = some (.tbl ps) → H' p.1 = some (.tbl ps))
    (n : ∀ b o, H' b = some o → H b = some o ∨ (NotTbl o ∧ (NotCode o ∨ F' b = some o))) : TabF T F' H' := by
  refine ⟨fun p hp => ?_, fun b ps h => ?_, fun b c q h => ?_⟩
  · obtain ⟨ps, h1, h2, h3⟩ := t.at_ p hp
    refine ⟨ps, k p hp ps h1, h2, fun pos cv hc => ?_⟩
    obtain ⟨c, e1, e2⟩ := h3 pos cv hc
    exact ⟨c, e1, e _ _ e2⟩
  · rcases n b _ h with z | ⟨z, _⟩
    · exact t.nt b ps z
    · exact absurd rfl (z ps)
  · rcases n b _ h with z | ⟨_, z | z⟩
    · exact e _ _ (t.cd b c q z)
    · exact absurd rfl (z c q)
    · exact z
theorem TabF.upd {T : List (Addr × Str)} {F F' H : Hp} {p : Addr} {o : HO} (t : TabF T F H) (e : Same F F') (hp : ∀ q ∈ T, q.1 ≠ p) (ho : NotTbl o) (hc : NotCode o ∨ F' p = some o) : TabF T F' (upd H p o) :=
  t.mono e (fun q hq ps z => by rw [upd_ne (hp q hq)]; exact z) fun b u z => by
    by_cases h : b = p
    · subst h
      rw [upd_same] at z
      cases z
      exact .inr ⟨ho, hc⟩
    · rw [upd_ne h] at z
      exact .inl z
/-- F: what never changes any more -/
structure Wd (dl : Dr) (F H : Hp) (s : DS) : Prop where
  sub : Same F H
  off : ∀ b, dl.has b → F b = none
  dr : DrawOk dl H s
  tb : TabF dl.tabs F H
structure Step (dl : Dr) (F H F' H' : Hp) : Prop where
  fs : Same F F'
  hs : ∀ b o, ¬ dl.has b → H b = some o → H' b = some o
  nw : ∀ b o, F' b = some o → F b = some o ∨ H b = none
  al : ∀ b, H' b = none → H b = none
theorem Step.refl {dl : Dr} {F H : Hp} : Step dl F H F H := ⟨fun _ _ h => h, fun _ _ _ h => h, fun _ _ h => .inl h, fun _ h => h⟩
theorem Step.trans {dl : Dr} {F H F1 H1 F2 H2 : Hp} (a : Step dl F H F1 H1) (b : Step dl F1 H1 F2 H2) : Step dl F H F2 H2 :=
  ⟨fun c o h => b.fs c o (a.fs c o h), fun c o n h => b.hs c o n (a.hs c o n h), fun c o h => by
    rcases b.nw c o h with q | q
    · exact a.nw c o q
    · exact .inr (a.al c q), fun c h => a.al c (b.al c h)⟩
theorem Wd.na {dl : Dr} {F H : Hp} {s : DS} (w : Wd dl F H s) {p : Addr} (h : H p = none) : ¬ dl.has p := fun z => by
  obtain ⟨h1, h2, h3, _⟩ := w.dr
  rcases z with z | z | z | ⟨q, z⟩
  · rw [← z, h] at h1; cases h1
  · rw [← z, h] at h2; cases h2
  · rw [← z, h] at h3; cases h3
  · obtain ⟨ps, h4, _⟩ := w.tb.at_ _ z
    rw [h] at h4; cases h4
theorem Wd.ne {dl : Dr} {F H : Hp} {s : DS} (w : Wd dl F H s) {p b : Addr} (h : H p = none) (hb : dl.has b) : b ≠ p := fun z => w.na h (by rw [← z]; exact hb)
theorem Wd.fnone {dl : Dr} {F H : Hp} {s : DS} (w : Wd dl F H s) {p : Addr} (h : H p = none) : F p = none := by
  cases e : F p with
  | none => rfl
  | some o => rw [w.sub p o e] at h; cases h
/-- a new object that never changes -/
theorem Wd.new {dl : Dr} {F H : Hp} {s : DS} (w : Wd dl F H s) {p : Addr} {o : HO} (h : H p = none) (ho : NotTbl o := by intro _ z; cases z) : Wd dl (upd F p o) (upd H p o) s := by
  have na := w.na h
  refine ⟨fun b u e => ?_, fun b hb => ?_, ?_, w.tb.upd (fun b u e => by rw [upd_ne (ne_of_none (w.sub b u e) h)]; exact e) (fun q hq z => w.na h (.inr (.inr (.inr ⟨q.2, by rw [← z]; exact hq⟩)))) ho (.inr upd_same)⟩
  · by_cases z : b = p
    · subst z; rw [upd_same] at e ⊢; exact e
    · rw [upd_ne z] at e ⊢; exact w.sub b u e
  · rw [upd_ne (w.ne h hb)]; exact w.off b hb
  · obtain ⟨h1, h2, h3, g⟩ := w.dr
    refine ⟨?_, ?_, ?_, g⟩
    · rw [upd_ne (w.ne h (.inl rfl))]; exact h1
    · rw [upd_ne (w.ne h (.inr (.inl rfl)))]; exact h2
    · rw [upd_ne (w.ne h (.inr (.inr (.inl rfl))))]; exact h3
theorem Step.new {dl : Dr} {F H : Hp} {s : DS} (w : Wd dl F H s) {p : Addr} {o : HO} (h : H p = none) : Step dl F H (upd F p o) (upd H p o) :=
  ⟨fun b u e => by rw [upd_ne (ne_of_none e (w.fnone h))]; exact e, fun b u _ e => by rw [upd_ne (ne_of_none e h)]; exact e, fun b u e => by
    by_cases z : b = p
    · subst z; exact .inr h
    · rw [upd_ne z] at e; exact .inl e, fun b e => by
    by_cases z : b = p
    · subst z; exact h
    · rw [upd_ne z] at e; exact e⟩
/-- a new object that may change yet -/
theorem Wd.newO {dl : Dr} {F H : Hp} {s : DS} (w : Wd dl F H s) {p : Addr} {o : HO} (h : H p = none) (ho : NotTbl o := by intro _ z; cases z) (hc : NotCode o := by intro _ _ z; unfold LamX.CodeO at z; cases z) : Wd dl F (upd H p o) s := by
  have na := w.na h
  refine ⟨fun b u e => ?_, w.off, ?_, w.tb.upd (fun _ _ e => e) (fun q hq z => w.na h (.inr (.inr (.inr ⟨q.2, by rw [← z]; exact hq⟩)))) ho (.inl hc)⟩
  · rw [upd_ne (ne_of_none (w.sub b u e) h)]; exact w.sub b u e
  · obtain ⟨h1, h2, h3, g⟩ := w.dr
    refine ⟨?_, ?_, ?_, g⟩
    · rw [upd_ne (w.ne h (.inl rfl))]; exact h1
    · rw [upd_ne (w.ne h (.inr (.inl rfl)))]; exact h2
    · rw [upd_ne (w.ne h (.inr (.inr (.inl rfl))))]; exact h3
theorem Step.newO {dl : Dr} {F H : Hp} {p : Addr} {o : HO} (h : H p = none) : Step dl F H F (upd H p o) :=
  ⟨fun _ _ e => e, fun b u _ e => by rw [upd_ne (ne_of_none e h)]; exact e, fun b u e => .inl e, fun b e => by
    by_cases z : b = p
    · subst z; exact h
    · rw [upd_ne z] at e; exact e⟩

/-- the keys of an own dict: numbers and texts, or tuples of these -/
inductive OK where
  | k (ks : List L2.Key) | t (ks : List (List L2.Key)) | u (n : Nat)
def OK.len : OK → Nat
  | .k ks => ks.length
  | .t ks => ks.length
  | .u n => n
def OK.nd : OK → Prop
  | .k ks => ks.Nodup
  | .t ks => ks.Nodup
  | .u _ => False
/-- .. and within a tree, where a tuple may stand too -/
def OK.ndT : OK → Prop
  | .k ks => ks.Nodup
  | .t ks => ks.Nodup
  | .u _ => True
def OK.ho : OK → List V → HO
  | .k ks, vs => .dK (ks.zip vs)
  | .t ks, vs => .dT (ks.zip vs)
  | .u _, vs => .tup vs
def OK.data : OK → List D → D
  | .k ks, ds => .dct ks ds
  | .t ks, ds => .dcT ks ds
  | .u _, ds => .tup ds
/-- a tree of lists and dicts of the def's own, with values that never change as leaves -/
inductive T where
  | fz (d : D)
  | lst (ts : List T)
  | dct (k : OK) (ts : List T)
mutual
def T.data : T → D
  | .fz d => d
  | .lst ts => .lst (T.datas ts)
  | .dct k ts => k.data (T.datas ts)
def T.datas : List T → List D
  | [] => []
  | t :: ts => t.data :: T.datas ts
end
inductive Sl where
  /-- a value that never changes -/
  | fz (d : D)
  /-- a list of the def's own, which nobody else knows -/
  | own (ds : List D)
  /-- the instance that __init__ fills -/
  | ini (c : Str) (ns : List Str) (ds : List D)
  /-- a dict of the def's own, which nobody else knows -/
  | ownX (k : OK) (ds : List D)
  /-- a tree of the def's own -/
  | tree (t : T)
abbrev Sls := List (Option Sl)
def Sl.isOwn : Sl → Bool
  | .fz _ => false
  | .tree _ => false
  | _ => true

section
variable (K : PySem.W.Frag) (mg : Str → Option Value) (dl : Dr) (H0 F H : Hp)
def SlOk : Sl → V → Prop
  | .fz d, v => Rep K mg dl F d v
  | .own ds, v => ∃ (a : Addr) (vs : List V), v = .ref a ∧ H a = some (.lst vs) ∧ F a = none ∧ H0 a = none ∧ ¬ dl.has a ∧ vs.length ≤ sizeLine ∧ RepL K mg dl F ds vs
  | .ini c ns ds, v => ∃ (a dx C : Addr) (vs : List V), v = .ref a ∧ mg c = some (.ref C) ∧ H a = some (.ins C dx (ns.zip vs)) ∧ H dx = some (.own a) ∧ F a = none ∧ F dx = none ∧ H0 a = none ∧ H0 dx = none ∧ ¬ dl.has a ∧ ¬ dl.has dx ∧
      ns.length = vs.length ∧ (ns.length ≤ 900 ∧ a = dl.o ∧ dx = dl.ox) ∧ RepL K mg dl F ds vs
  | .ownX k ds, v => ∃ (a : Addr) (vs : List V), v = .ref a ∧ H a = some (k.ho vs) ∧ F a = none ∧ H0 a = none ∧ ¬ dl.has a ∧ k.len = vs.length ∧ (k.len ≤ 1000 ∧ k.nd) ∧ RepL K mg dl F ds vs
  | .tree _, _ => True
end
section
variable (K : PySem.W.Frag) (mg : Str → Option Value) (dl : Dr) (F H : Hp)
mutual
/-- v stands for the tree t, whose lists and dicts lie at as -/
def TR : T → V → List Addr → Prop
  | .fz d, v, as => as = [] ∧ Rep K mg dl F d v
  | .lst ts, v, as => ∃ (a : Addr) (vs : List V) (bs : List Addr), v = .ref a ∧ as = a :: bs ∧ H a = some (.lst vs) ∧ vs.length ≤ sizeLine ∧ TRL ts vs bs
  | .dct k ts, v, as => ∃ (a : Addr) (vs : List V) (bs : List Addr), v = .ref a ∧ as = a :: bs ∧ H a = some (k.ho vs) ∧ k.len = vs.length ∧ (k.len ≤ 1000 ∧ k.ndT) ∧ TRL ts vs bs
def TRL : List T → List V → List Addr → Prop
  | [], vs, as => vs = [] ∧ as = []
  | t :: ts, vs, as => ∃ (v : V) (vs' : List V) (a1 a2 : List Addr), vs = v :: vs' ∧ as = a1 ++ a2 ∧ TR t v a1 ∧ TRL ts vs' a2
end
end
section
variable {K : PySem.W.Frag} {mg : Str → Option Value} {dl : Dr} {F H F' H' : Hp}
mutual
theorem TR.mono (e : Same F F') : ∀ (t : T) (v : V) (as : List Addr), (∀ a ∈ as, H' a = H a) → TR K mg dl F H t v as → TR K mg dl F' H' t v as
  | .fz d, v, as, _, h => ⟨h.1, Rep.mono e d v h.2⟩
  | .lst ts, v, as, q, h => by
    obtain ⟨a, vs, bs, h1, rfl, h3, h4, h5⟩ := h
    exact ⟨a, vs, bs, h1, rfl, by rw [q a (.head _)]; exact h3, h4, TRL.mono e ts vs bs (fun b hb => q b (.tail _ hb)) h5⟩
  | .dct k ts, v, as, q, h => by
    obtain ⟨a, vs, bs, h1, rfl, h3, h4, h5, h6⟩ := h
    exact ⟨a, vs, bs, h1, rfl, by rw [q a (.head _)]; exact h3, h4, h5, TRL.mono e ts vs bs (fun b hb => q b (.tail _ hb)) h6⟩
theorem TRL.mono (e : Same F F') : ∀ (ts : List T) (vs : List V) (as : List Addr), (∀ a ∈ as, H' a = H a) → TRL K mg dl F H ts vs as → TRL K mg dl F' H' ts vs as
  | [], _, _, _, h => h
  | t :: ts, vs, as, q, h => by
    obtain ⟨v, vs', a1, a2, h1, rfl, h3, h4⟩ := h
    exact ⟨v, vs', a1, a2, h1, rfl, TR.mono e t v a1 (fun b hb => q b (List.mem_append_left _ hb)) h3, TRL.mono e ts vs' a2 (fun b hb => q b (List.mem_append_right _ hb)) h4⟩
end
mutual
theorem TR.some : ∀ (t : T) (v : V) (as : List Addr), TR K mg dl F H t v as → ∀ a ∈ as, ∃ o, H a = some o
  | .fz d, v, as, h => by
    obtain ⟨rfl, _⟩ := h
    exact fun a ha => nomatch ha
  | .lst ts, v, as, h => by
    obtain ⟨a, vs, bs, h1, rfl, h3, h4, h5⟩ := h
    intro b hb
    rcases List.mem_cons.mp hb with rfl | hb
    · exact ⟨_, h3⟩
    · exact TRL.some ts vs bs h5 b hb
  | .dct k ts, v, as, h => by
    obtain ⟨a, vs, bs, h1, rfl, h3, h4, h5, h6⟩ := h
    intro b hb
    rcases List.mem_cons.mp hb with rfl | hb
    · exact ⟨_, h3⟩
    · exact TRL.some ts vs bs h6 b hb
theorem TRL.some : ∀ (ts : List T) (vs : List V) (as : List Addr), TRL K mg dl F H ts vs as → ∀ a ∈ as, ∃ o, H a = some o
  | [], _, _, h => by
    obtain ⟨_, rfl⟩ := h
    exact fun a ha => nomatch ha
  | t :: ts, vs, as, h => by
    obtain ⟨v, vs', a1, a2, h1, rfl, h3, h4⟩ := h
    intro b hb
    rcases List.mem_append.mp hb with hb | hb
    · exact TR.some t v a1 h3 b hb
    · exact TRL.some ts vs' a2 h4 b hb
end
theorem zip_snd_inj {α β : Type} : ∀ {ks : List α} {vs ws : List β}, ks.length = vs.length → ks.length = ws.length → ks.zip vs = ks.zip ws → vs = ws
  | [], [], [], _, _, _ => rfl
  | [], _ :: _, _, h, _, _ => by cases h
  | [], [], _ :: _, _, h, _ => by cases h
  | _ :: _, [], _, h, _, _ => by cases h
  | _ :: _, _ :: _, [], _, h, _ => by cases h
  | k :: ks, v :: vs, w :: ws, h1, h2, e => by
    rw [List.zip_cons_cons, List.zip_cons_cons, List.cons.injEq, Prod.mk.injEq] at e
    rw [e.1.2, zip_snd_inj (Nat.succ.inj h1) (Nat.succ.inj h2) e.2]
theorem OK.ho_inj {k : OK} {vs ws : List V} (h1 : k.len = vs.length) (h2 : k.len = ws.length) (e : k.ho vs = k.ho ws) : vs = ws := by
  cases k with
  | k ks => exact zip_snd_inj h1 h2 (by injection e)
  | t ks => exact zip_snd_inj h1 h2 (by injection e)
  | u n => injection e
mutual
theorem TR.det : ∀ (t : T) (v : V) (as bs : List Addr), TR K mg dl F H t v as → TR K mg dl F H t v bs → as = bs
  | .fz d, v, as, bs, h, h' => by rw [h.1, h'.1]
  | .lst ts, v, as, bs, h, h' => by
    obtain ⟨a, vs, a1, rfl, rfl, h3, h4, h5⟩ := h
    obtain ⟨b, ws, b1, e, rfl, g3, g4, g5⟩ := h'
    cases e
    rw [h3] at g3
    cases g3
    rw [TRL.det ts vs a1 b1 h5 g5]
  | .dct k ts, v, as, bs, h, h' => by
    obtain ⟨a, vs, a1, rfl, rfl, h3, h4, h5, h6⟩ := h
    obtain ⟨b, ws, b1, e, rfl, g3, g4, g5, g6⟩ := h'
    cases e
    rw [h3] at g3
    have e := OK.ho_inj h4 g4 (Option.some.inj g3)
    subst e
    rw [TRL.det ts vs a1 b1 h6 g6]
theorem TRL.det : ∀ (ts : List T) (vs : List V) (as bs : List Addr), TRL K mg dl F H ts vs as → TRL K mg dl F H ts vs bs → as = bs
  | [], _, _, _, h, h' => by rw [h.2, h'.2]
  | t :: ts, vs, as, bs, h, h' => by
    obtain ⟨v, vs', a1, a2, rfl, rfl, h3, h4⟩ := h
    obtain ⟨w, ws', b1, b2, e, rfl, g3, g4⟩ := h'
    cases e
    rw [TR.det t v a1 b1 h3 g3, TRL.det ts vs' a2 b2 h4 g4]
end
end
/-- the trees among the slots, where they lie -/
structure TrOk (K : PySem.W.Frag) (mg : Str → Option Value) (dl : Dr) (H0 F H : Hp) (sg : L2.St) (G : Sls) (fp : Nat → List Addr) : Prop where
  at_ : ∀ (i : Nat) (t : T), G[i]? = some (some (.tree t)) → ∃ v, sg[i]? = some (some v) ∧ TR K mg dl F H t v (fp i) ∧ (fp i).Nodup ∧ ∀ a ∈ fp i, F a = none ∧ H0 a = none ∧ ¬ dl.has a
  dj : ∀ (i j : Nat) (t u : T), G[i]? = some (some (.tree t)) → G[j]? = some (some (.tree u)) → i ≠ j → ∀ a ∈ fp i, a ∉ fp j
  nx : ∀ (i j : Nat) (t : T) (s : Sl) (a : Addr), G[i]? = some (some (.tree t)) → G[j]? = some (some s) → s.isOwn = true → sg[j]? = some (some (.ref a)) → a ∉ fp i
def Trs (K : PySem.W.Frag) (mg : Str → Option Value) (dl : Dr) (H0 F H : Hp) (sg : L2.St) (G : Sls) : Prop := ∃ fp : Nat → List Addr, TrOk K mg dl H0 F H sg G fp
section
variable {K : PySem.W.Frag} {mg : Str → Option Value} {dl : Dr} {H0 F H F' H' : Hp} {sg sg' : L2.St} {G G' : Sls}
theorem Trs.no (h : ∀ (i : Nat) (t : T), G[i]? ≠ some (some (.tree t))) : Trs K mg dl H0 F H sg G := ⟨fun _ => [], fun i t e => absurd e (h i t), fun i _ t _ e => absurd e (h i t), fun i _ t _ _ e => absurd e (h i t)⟩
theorem Trs.keep (S : Trs K mg dl H0 F H sg G) (h1 : ∀ (j : Nat) (t : T), G'[j]? = some (some (.tree t)) → G[j]? = some (some (.tree t)) ∧ sg'[j]? = sg[j]?) (hF : Same F F')
    (hh : ∀ fp, TrOk K mg dl H0 F H sg G fp → ∀ (j : Nat) (t : T), G[j]? = some (some (.tree t)) → ∀ a ∈ fp j, (∃ o, H a = some o) → F a = none → ¬ dl.has a → H' a = H a ∧ F' a = none)
    (h3 : ∀ fp, TrOk K mg dl H0 F H sg G fp → ∀ (j : Nat) (s : Sl) (a : Addr), G'[j]? = some (some s) → s.isOwn = true → sg'[j]? = some (some (.ref a)) → ∀ (i : Nat) (t : T), G[i]? = some (some (.tree t)) → a ∉ fp i) : Trs K mg dl H0 F' H' sg' G' := by
  obtain ⟨fp, S⟩ := S
  refine ⟨fp, fun i t e => ?_, fun i j t u e1 e2 => S.dj i j t u (h1 i t e1).1 (h1 j u e2).1, fun i j t s a e1 e2 o es => h3 fp S j s a e2 o es i t (h1 i t e1).1⟩
  obtain ⟨e1, e2⟩ := h1 i t e
  obtain ⟨v, q1, q2, q3, q4⟩ := S.at_ i t e1
  have q5 := fun a ha => hh fp S i t e1 a ha (TR.some t v _ q2 a ha) (q4 a ha).1 (q4 a ha).2.2
  exact ⟨v, by rw [e2]; exact q1, TR.mono hF t v _ (fun a ha => (q5 a ha).1) q2, q3, fun a ha => ⟨(q5 a ha).2, (q4 a ha).2⟩⟩
theorem Trs.step (S : Trs K mg dl H0 F H sg G) (e : Step dl F H F' H') : Trs K mg dl H0 F' H' sg G :=
  S.keep (fun j t q => ⟨q, rfl⟩) e.fs (fun fp _ j t _ a _ ⟨o, ho⟩ hf nd => ⟨by rw [ho]; exact e.hs a o nd ho, by
    cases q : F' a with
    | none => rfl
    | some u =>
      rcases e.nw a u q with z | z
      · rw [hf] at z; cases z
      · rw [ho] at z; cases z⟩) fun fp T j s a ej o es i t ei => T.nx i j t s a ei ej o es
/-- the object of an own slot changes, or is frozen -/
theorem Trs.at {s s' : Sl} {i : Nat} {a : Addr} (S : Trs K mg dl H0 F H sg G) (ei : G[i]? = some (some s)) (o1 : s.isOwn = true) (n : ∀ t, s' ≠ .tree t) (es : sg[i]? = some (some (.ref a))) (sF : Same F F') (hH : ∀ b, b ≠ a → H' b = H b) (hF : ∀ b, b ≠ a → F' b = F b) :
    Trs K mg dl H0 F' H' sg (G.set i (some s')) := by
  have old : ∀ (j : Nat) (u : Sl), (G.set i (some s'))[j]? = some (some u) → (i = j ∧ u = s') ∨ G[j]? = some (some u) := fun j u e => by
    by_cases z : i = j
    · subst z
      rw [List.getElem?_set_self (List.getElem?_eq_some_iff.mp ei).1] at e
      cases e
      exact .inl ⟨rfl, rfl⟩
    · rw [List.getElem?_set_ne z] at e
      exact .inr e
  refine S.keep (fun j t e => ?_) sF (fun fp T j t ej b hb _ hf _ => ?_) fun fp T j u b ej o eb m t em => ?_
  · rcases old j _ e with ⟨_, z⟩ | z
    · exact absurd z.symm (n t)
    · exact ⟨z, rfl⟩
  · have ne : b ≠ a := fun z => T.nx j i t s a ej ei o1 es (by rw [← z]; exact hb)
    exact ⟨hH b ne, by rw [hF b ne]; exact hf⟩
  · rcases old j _ ej with ⟨rfl, _⟩ | z
    · exact T.nx m i t s b em ei o1 eb
    · exact T.nx m j t u b em z o eb
/-- another value in a slot -/
theorem Trs.put {s' : Sl} {i : Nat} {v : V} (S : Trs K mg dl H0 F H sg G) (n : ∀ t, s' ≠ .tree t) (h : s'.isOwn = true → ∀ a, v = .ref a → ∀ fp, TrOk K mg dl H0 F H sg G fp → ∀ (j : Nat) (t : T), G[j]? = some (some (.tree t)) → a ∉ fp j) :
    Trs K mg dl H0 F H (sg.set i (some v)) (G.set i (some s')) := by
  have old : ∀ (j : Nat) (u : Sl), (G.set i (some s'))[j]? = some (some u) → (i = j ∧ u = s') ∨ (i ≠ j ∧ G[j]? = some (some u)) := fun j u e => by
    by_cases z : i = j
    · subst z
      by_cases q : i < G.length
      · rw [List.getElem?_set_self q] at e
        cases e
        exact .inl ⟨rfl, rfl⟩
      · rw [List.getElem?_set] at e
        simp [q] at e
    · rw [List.getElem?_set_ne z] at e
      exact .inr ⟨z, e⟩
  refine S.keep (fun j t e => ?_) (fun _ _ z => z) (fun fp T j t ej b hb _ hf _ => ⟨rfl, hf⟩) fun fp T j u b ej o eb m t em => ?_
  · rcases old j _ e with ⟨_, z⟩ | ⟨z, z2⟩
    · exact absurd z.symm (n t)
    · exact ⟨z2, by rw [List.getElem?_set_ne z]⟩
  · rcases old j _ ej with ⟨rfl, rfl⟩ | ⟨z, z2⟩
    · by_cases q : i < sg.length
      · rw [List.getElem?_set_self q] at eb
        cases eb
        exact h o b rfl fp T m t em
      · rw [List.getElem?_set] at eb
        simp [q] at eb
    · rw [List.getElem?_set_ne z] at eb
      exact T.nx m j t u b em z2 o eb
end
structure Sim (K : PySem.W.Frag) (mg : Str → Option Value) (dl : Dr) (F0 H0 F H : Hp) (sg : L2.St) (G : Sls) : Prop where
  len : G.length = sg.length
  sl : ∀ (i : Nat) (s : Sl), G[i]? = some (some s) → ∃ v, sg[i]? = some (some v) ∧ SlOk K mg dl H0 F H s v
  dis : ∀ (i j : Nat) (s t : Sl), G[i]? = some (some s) → G[j]? = some (some t) → s.isOwn = true → t.isOwn = true → sg[i]? = sg[j]? → i = j
  st : Step dl F0 H0 F H
  tr : Trs K mg dl H0 F H sg G
section
variable {K : PySem.W.Frag} {mg : Str → Option Value} {dl : Dr} {F0 H0 F H F' H' : Hp} {sg : L2.St} {G : Sls}
theorem SlOk.step {s : Sl} {v : V} (e : Step dl F H F' H') (h : SlOk K mg dl H0 F H s v) : SlOk K mg dl H0 F' H' s v := by
  have fr : ∀ a, F a = none → (∃ o, H a = some o) → F' a = none := fun a h1 ⟨o, h2⟩ => by
    cases q : F' a with
    | none => rfl
    | some u =>
      rcases e.nw a u q with z | z
      · rw [h1] at z; cases z
      · rw [h2] at z; cases z
  cases s with
  | fz d => exact Rep.mono e.fs d v h
  | own ds =>
    obtain ⟨a, vs, h1, h2, h3, h4, h5, h6, h7⟩ := h
    exact ⟨a, vs, h1, e.hs a _ h5 h2, fr a h3 ⟨_, h2⟩, h4, h5, h6, RepL.mono e.fs ds vs h7⟩
  | ini c ns ds =>
    obtain ⟨a, dx, C, vs, h1, h2, h3, h4, h5, h6, h7, h8, h9, h10, h11, h12, h13⟩ := h
    exact ⟨a, dx, C, vs, h1, h2, e.hs a _ h9 h3, e.hs dx _ h10 h4, fr a h5 ⟨_, h3⟩, fr dx h6 ⟨_, h4⟩, h7, h8, h9, h10, h11, h12, RepL.mono e.fs ds vs h13⟩
  | ownX k ds =>
    obtain ⟨a, vs, h1, h2, h3, h4, h5, h6, h7, h8⟩ := h
    exact ⟨a, vs, h1, e.hs a _ h5 h2, fr a h3 ⟨_, h2⟩, h4, h5, h6, h7, RepL.mono e.fs ds vs h8⟩
  | tree t => trivial
theorem Sim.step (S : Sim K mg dl F0 H0 F H sg G) (e : Step dl F H F' H') : Sim K mg dl F0 H0 F' H' sg G :=
  ⟨S.len, fun i s h => by
    obtain ⟨v, h1, h2⟩ := S.sl i s h
    exact ⟨v, h1, h2.step e⟩, S.dis, S.st.trans e, S.tr.step e⟩
end

section
variable (mg : Str → Option Value) (K : PySem.W.Frag) (dl : Dr)
/-- an exception of the text: its class, its own dict (if it has attributes) -/
def ExRep (F H : Hp) (x : Exn) (cls : Value) (d : Option Addr) : Prop :=
  ∃ C : Addr, mg x.cls = some (.ref C) ∧ cls = .ref C ∧
    ((x.ns = [] ∧ x.xs = [] ∧ d = none) ∨ (x.ns ≠ [] ∧ ∃ (a : Addr) (vs : List V), d = some a ∧ F a = some (.xd (x.ns.zip vs)) ∧ x.ns.length = vs.length ∧ RepL K mg dl F x.xs vs))
abbrev XK' := Value → Option Addr → Hp → Prop
def Go {α : Type} (W : XK') (F H : Hp) (r : Option (Res α × DS)) (k : α → DS → Hp → Hp → Prop) : Prop := match r with
  | none => False
  | some (.ok a, s') => ∀ F' H', Step dl F H F' H' → Wd dl F' H' s' → k a s' F' H'
  | some (.err x, s') => ∀ F' H' cls d, Step dl F H F' H' → Wd dl F' H' s' → ExRep mg K dl F' H' x cls d → W cls d H'
end
section
variable {mg : Str → Option Value} {K : PySem.W.Frag} {dl : Dr} {W : XK'} {F H : Hp}
theorem Go.bnd {α β : Type} {m : M α} {k : α → M β} {s : DS} {q : β → DS → Hp → Hp → Prop} (h : Go mg K dl W F H (EK.bnd m k s) q) :
    Go mg K dl W F H (m s) fun a s1 F1 H1 => Go mg K dl W F1 H1 (k a s1) q := by
  unfold EK.bnd at h
  cases e : m s with
  | none => rw [e] at h; exact h
  | some p =>
    obtain ⟨r, s1⟩ := p
    rw [e] at h
    cases r with
    | err x => exact h
    | ok a =>
      intro F1 H1 st1 w1
      have h : Go mg K dl W F H (k a s1) q := h
      cases e2 : k a s1 with
      | none => rw [e2] at h; exact h
      | some p2 =>
        obtain ⟨r2, s2⟩ := p2
        rw [e2] at h
        cases r2 with
        | ok b => exact fun F2 H2 st2 w2 => h F2 H2 (st1.trans st2) w2
        | err x => exact fun F2 H2 cls d st2 w2 => h F2 H2 cls d (st1.trans st2) w2
theorem Go.imp {α : Type} {r : Option (Res α × DS)} {k k' : α → DS → Hp → Hp → Prop} (h : Go mg K dl W F H r k) (f : ∀ a s F' H', Step dl F H F' H' → Wd dl F' H' s → k a s F' H' → k' a s F' H') : Go mg K dl W F H r k' := by
  cases r with
  | none => exact h
  | some p =>
    obtain ⟨r, s1⟩ := p
    cases r with
    | err x => exact h
    | ok a => exact fun F1 H1 st w => f a s1 F1 H1 st w (h F1 H1 st w)
theorem Go.ret {α : Type} {a : α} {s : DS} {q : α → DS → Hp → Hp → Prop} (w : Wd dl F H s) (h : Go mg K dl W F H (EK.ret a s) q) : q a s F H := h F H Step.refl w
theorem Go.ofO {α : Type} {o : Option α} {s : DS} {q : α → DS → Hp → Hp → Prop} (h : Go mg K dl W F H (EK.ofO o s) q) : ∃ a, o = some a ∧ ∀ F' H', Step dl F H F' H' → Wd dl F' H' s → q a s F' H' := by
  cases o with
  | none => exact h.elim
  | some a => exact ⟨a, rfl, h⟩
theorem Go.noErr {α : Type} {m : M α} {s : DS} {q : α → DS → Hp → Hp → Prop} (h : Go mg K dl W F H (EK.noErr m s) q) : Go mg K dl (fun _ _ _ => False) F H (m s) q := by
  unfold EK.noErr at h
  cases e : m s with
  | none => rw [e] at h; exact h
  | some p =>
    obtain ⟨r, s1⟩ := p
    rw [e] at h
    cases r with
    | ok a => exact h
    | err x => exact h.elim
end

/-- an expression's computation from the slots -/
abbrev SE := Sls → M D
abbrev ST := Sls → M Bool
abbrev SA := Sls → M (List D)
section
variable (X : Cx) (dl : Dr) (W : WX)
def tGF {α : Type} (F : Hp) (f : Sls → M α) (q : α → Hp → Hp → Prop) (sg : L2.St) (H : Hp) : Prop :=
  ∃ (F0 H0 : Hp) (G : Sls) (s : DS), Wd dl F H s ∧ Sim X.K X.mg dl F0 H0 F H sg G ∧ Go X.mg X.K dl (fun c d H' => W c d sg H') F H (f G s) fun a _ F' H' => q a F' H'
def tD (f : SE) : TE := fun sg H Q => ∃ F, tGF X dl W F f (fun d F' H' => ∀ v, Rep X.K X.mg dl F' d v → Q v H') sg H
def tDT (f : ST) : TT := fun sg H Q => ∃ F, tGF X dl W F f (fun b _ H' => Q b H') sg H
def tDA (f : SA) : TA := fun sg H Q => ∃ F, tGF X dl W F f (fun ds F' H' => ∀ vs, RepL X.K X.mg dl F' ds vs → Q vs H') sg H
abbrev DE (e : Expr) (f : SE) : Prop := PE X e (tD X dl W f)
abbrev DT (e : Expr) (f : ST) : Prop := PT X e (tDT X dl W f)
abbrev DW (e : Expr) (f : ST) : Prop := PW X e (tDT X dl W f)
abbrev DA (es : List Expr) (f : SA) : Prop := PA X es (tDA X dl W f)
end
section
variable {X : Cx} {dl : Dr} {W : WX} {F H : Hp} {sg : L2.St}
theorem tGF.bnd {α β : Type} {fa : Sls → M α} {k : Sls → α → M β} {q : β → Hp → Hp → Prop} (h : tGF X dl W F (fun G => EK.bnd (fa G) (k G)) q sg H) :
    tGF X dl W F fa (fun a F1 H1 => Step dl F H F1 H1 ∧ tGF X dl W F1 (fun G => k G a) q sg H1) sg H := by
  obtain ⟨F0, H0, G, s, w, S, g⟩ := h
  exact ⟨F0, H0, G, s, w, S, g.bnd.imp fun a s1 F1 H1 st1 w1 g1 => ⟨st1, F0, H0, G, s1, w1, S.step st1, g1⟩⟩
theorem tGF.imp {α : Type} {f : Sls → M α} {q q' : α → Hp → Hp → Prop} (h : tGF X dl W F f q sg H) (i : ∀ a F' H', q a F' H' → q' a F' H') : tGF X dl W F f q' sg H := by
  obtain ⟨F0, H0, G, s, w, S, g⟩ := h
  exact ⟨F0, H0, G, s, w, S, g.imp fun a s1 F1 H1 _ _ z => i a F1 H1 z⟩
theorem tGF.rt {α : Type} {a : α} {q : α → Hp → Hp → Prop} (h : tGF X dl W F (fun _ => EK.ret a) q sg H) : q a F H := by
  obtain ⟨F0, H0, G, s, w, S, g⟩ := h
  exact g.ret w
theorem tGF.wd {α : Type} {f : Sls → M α} {q : α → Hp → Hp → Prop} (h : tGF X dl W F f q sg H) : ∃ s, Wd dl F H s := by
  obtain ⟨F0, H0, G, s, w, S, g⟩ := h
  exact ⟨s, w⟩
theorem tGF.sub {α : Type} {f : Sls → M α} {q : α → Hp → Hp → Prop} (h : tGF X dl W F f q sg H) : Same F H := by
  obtain ⟨s, w⟩ := h.wd
  exact w.sub
/-- an answer that is a function of what is known -/
theorem tGF.op {α : Type} {o : Option α} {q : α → Hp → Hp → Prop} (h : tGF X dl W F (fun _ => EK.ofO o) q sg H) :
    ∃ (a : α) (s : DS), o = some a ∧ Wd dl F H s ∧ ∀ F' H', Step dl F H F' H' → Wd dl F' H' s → q a F' H' := by
  obtain ⟨F0, H0, G, s, w, S, g⟩ := h
  obtain ⟨a, e, g⟩ := g.ofO
  exact ⟨a, s, e, w, g⟩
end
theorem PE.of {X : Cx} {e : Expr} {t t' : TE} (h : PE X e t) (w : ∀ sg H Q, t' sg H Q → t sg H Q) : PE X e t' := ⟨fun pins s sg H Q I q => h.run pins s sg H Q I (w _ _ _ q)⟩
theorem PT.of {X : Cx} {e : Expr} {t t' : TT} (h : PT X e t) (w : ∀ sg H Q, t' sg H Q → t sg H Q) : PT X e t' := ⟨fun pins s sg H Q I q => h.run pins s sg H Q I (w _ _ _ q)⟩
theorem PW.of {X : Cx} {e : Expr} {t t' : TT} (h : PW X e t) (w : ∀ sg H Q, t' sg H Q → t sg H Q) : PW X e t' := ⟨fun wh pins s sg H Q I q => h.run wh pins s sg H Q I (w _ _ _ q)⟩
theorem PA.of {X : Cx} {e : List Expr} {t t' : TA} (h : PA X e t) (w : ∀ sg H Q, t' sg H Q → t sg H Q) : PA X e t' := ⟨fun pos pins s sg H Q I q => h.run pos pins s sg H Q I (w _ _ _ q)⟩
theorem PS.of {X : Cx} {e : Stmt} {t t' : TS} (h : PS X e t) (w : ∀ D sg H, t' D sg H → t D sg H) : PS X e t' := ⟨fun pins s sg H D I q => h.run pins s sg H D I (w _ _ _ q)⟩
theorem PSs.of {X : Cx} {e : List Stmt} {t t' : TS} (h : PSs X e t) (w : ∀ D sg H, t' D sg H → t D sg H) : PSs X e t' := ⟨fun pins s sg H D I q => h.run pins s sg H D I (w _ _ _ q)⟩
end EK


namespace EK
open PySem PySem.Spec PyProof.Rows L2
section
variable {X : Cx} {dl : Dr} {W : WX}

def gv (i : Nat) : SE := fun G => match G[i]? with
  | some (some (.fz d)) => ret d
  | _ => fail
theorem de_of_var {e : Expr} {i : Nat} (h : PE X e (tVar i)) : DE X dl W e (gv i) := by
  refine PE.of h fun sg H Q q => ?_
  obtain ⟨F, F0, H0, G, s, w, S, g⟩ := q
  cases e1 : G[i]? with
  | none => simp only [gv, e1] at g; exact g.elim
  | some o =>
    cases o with
    | none => simp only [gv, e1] at g; exact g.elim
    | some sl =>
      cases sl with
      | own _ => simp only [gv, e1] at g; exact g.elim
      | ini _ _ _ => simp only [gv, e1] at g; exact g.elim
      | ownX _ _ => simp only [gv, e1] at g; exact g.elim
      | tree _ => simp only [gv, e1] at g; exact g.elim
      | fz d =>
        simp only [gv, e1] at g
        obtain ⟨v, h1, h2⟩ := S.sl i _ e1
        exact ⟨v, h1, g.ret w v h2⟩
theorem de_var (i : Nat) {x : Str} {pos : Pos} (hN : X.N[i]? = some x := by rfl) (hv : Vis X.env.scope x := by first | exact Or.inl rfl | exact Or.inr (Or.inl rfl) | exact Or.inr (Or.inr rfl)) (hd : (x == ("__debug__" : Str)) = false := by decide)
    (hcd : (x == ("__classdict__" : Str)) = false := by decide) : DE X dl W (.Name x pos) (gv i) := de_of_var (pe_var hN hv hd hcd)
/-- a value that is known -/
theorem de_known {e : Expr} {v : V} {d : D} (h : PE X e (tC v)) (r : ∀ F, Rep X.K X.mg dl F d v) : DE X dl W e (fun _ => ret d) := by
  refine PE.of h fun sg H Q q => ?_
  obtain ⟨F, q⟩ := q
  exact q.rt v (r F)
theorem de_int {i j pos} : DE X dl W (.Constant (.int i) j pos) (fun _ => ret (.int i)) := de_known pe_int fun _ => rfl
theorem de_bl {b j pos} : DE X dl W (.Constant (.bool b) j pos) (fun _ => ret (.bl b)) := de_known pe_bl fun _ => rfl
theorem de_non {j pos} : DE X dl W (.Constant .none j pos) (fun _ => ret .non) := de_known pe_non fun _ => rfl
theorem de_str {x j pos} : DE X dl W (.Constant (.str x) j pos) (fun _ => ret (.str x)) := de_known pe_str fun _ => rfl
theorem de_gint {x : Str} {i : Int} {t : Tok} {pos : Pos} (hg : Gl X x) (hm : X.mg x = some (.int i t)) (hd : (x == ("__debug__" : Str)) = false := by decide) : DE X dl W (.Name x pos) (fun _ => ret (.int i)) := de_known (pe_glob (v := .int i) hg hm ⟨_, rfl⟩ hd) fun _ => rfl
theorem de_gstr {x : Str} {y : Str} {t : Tok} {pos : Pos} (hg : Gl X x) (hm : X.mg x = some (.str y t)) (hd : (x == ("__debug__" : Str)) = false := by decide) : DE X dl W (.Name x pos) (fun _ => ret (.str y)) := de_known (pe_glob (v := .str y) hg hm ⟨_, rfl⟩ hd) fun _ => rfl

def sa0 : SA := fun _ => ret []
def saC (f : SE) (r : SA) : SA := fun G => bnd (f G) fun d => bnd (r G) fun ds => ret (d :: ds)
/-- *e: its items go in -/
def itemsTL : D → Option (List D)
  | .lst xs => some xs
  | .tup xs => some xs
  | _ => none
def saS (f : SE) (r : SA) : SA := fun G => bnd (f G) fun d => bnd (ofO (itemsTL d)) fun xs => bnd (r G) fun ds => ret (xs ++ ds)
theorem da_nil : DA X dl W [] sa0 := by
  refine PA.of pa_nil fun sg H Q q => ?_
  obtain ⟨F, q⟩ := q
  exact q.rt [] rfl
theorem da_cons {e : Expr} {es : List Expr} {f : SE} {r : SA} (he : DE X dl W e f) (hr : DA X dl W es r) (hs : starEach (e :: es) X.env = (false, eval e X.env) :: starEach es X.env := by rfl) : DA X dl W (e :: es) (saC f r) := by
  refine PA.of (pa_cons he hr hs) fun sg H Q q => ?_
  obtain ⟨F, q⟩ := q
  refine ⟨F, q.bnd.imp fun d F1 H1 ⟨st1, q1⟩ v rv => ⟨F1, q1.bnd.imp fun ds F2 H2 ⟨st2, q2⟩ vs rvs => ?_⟩⟩
  exact q2.rt (v :: vs) ⟨v, vs, rfl, Rep.mono st2.fs d v rv, rvs⟩
theorem seq_of {F H : Hp} {K : PySem.W.Frag} {mg : Str → Option Value} {d : D} {v : V} {xs : List D} (sub : Same F H) (r : Rep K mg dl F d v) (e : itemsTL d = some xs) :
    ∃ (a : Addr) (vs : List V), v = .ref a ∧ (SqT K H a vs ∨ SqL K H a vs) ∧ vs.length ≤ sizeLine ∧ RepL K mg dl F xs vs := by
  cases d with
  | lst ys =>
    obtain ⟨a, vs, h1, h2, h3, h4⟩ := r
    cases e
    exact ⟨a, vs, h1, .inr (SqL.of (sub _ _ h2)), h3, h4⟩
  | tup ys =>
    obtain ⟨a, vs, h1, h2, h3, h4⟩ := r
    cases e
    exact ⟨a, vs, h1, .inl (Same.seqT sub h2), h3, h4⟩
  | non => cases e
  | bl _ => cases e
  | int _ => cases e
  | str _ => cases e
  | obj _ _ _ => cases e
  | drw => cases e
  | scr _ => cases e
  | dct _ _ => cases e
  | dcT _ _ => cases e
  | exc _ _ _ => cases e
theorem da_star {e : Expr} {es : List Expr} {f : SE} {r : SA} {p : Pos} (he : DE X dl W e f) (hr : DA X dl W es r) (hs : starEach (.Starred e p :: es) X.env = (true, eval e X.env) :: starEach es X.env := by rfl) : DA X dl W (.Starred e p :: es) (saS f r) := by
  refine PA.of (StX.pa_star he hr hs) fun sg H Q q => ?_
  obtain ⟨F, q⟩ := q
  refine ⟨F, q.bnd.imp fun d F1 H1 ⟨st1, q1⟩ v rv => ?_⟩
  obtain ⟨xs, s, e1, w1, q1'⟩ := q1.bnd.op
  obtain ⟨a, vs, h1, h2, h3, h4⟩ := seq_of w1.sub rv e1
  refine ⟨a, vs, h1, h2, ?_⟩
  obtain ⟨_, q2⟩ := q1' F1 H1 Step.refl w1
  exact ⟨F1, q2.bnd.imp fun ds F2 H2 ⟨st2, q3⟩ ws rws => q3.rt (vs ++ ws) ((RepL.mono st2.fs xs vs h4).append rws)⟩
/-- displays -/
def gLst (r : SA) : SE := fun G => bnd (r G) fun ds => ofO (if ds.length ≤ sizeLine then some (.lst ds) else none)
def gTup (r : SA) : SE := fun G => bnd (r G) fun ds => ofO (if ds.length ≤ sizeLine then some (.tup ds) else none)
theorem de_lst {es : List Expr} {r : SA} {pos : Pos} (h : DA X dl W es r) : DE X dl W (.List es pos) (EK.gLst r) := by
  refine PE.of (pe_lst h) fun sg H Q q => ?_
  obtain ⟨F, q⟩ := q
  refine ⟨F, q.bnd.imp fun ds F1 H1 ⟨st1, q1⟩ vs rvs => ?_⟩
  obtain ⟨d, s, e, w, q2⟩ := q1.op
  split at e
  · rename_i hl
    cases e
    rw [rvs.length] at hl
    refine ⟨hl, fun p hp => q2 _ _ (Step.new w hp) (w.new hp) _ ⟨p, vs, rfl, upd_same, hl, RepL.mono (Step.new w hp).fs _ _ rvs⟩⟩
  · cases e
theorem de_tup {es : List Expr} {r : SA} {x1} {pos : Pos} (h : DA X dl W es r) : DE X dl W (.Tuple es x1 pos) (EK.gTup r) := by
  refine PE.of (pe_tup h) fun sg H Q q => ?_
  obtain ⟨F, q⟩ := q
  refine ⟨F, q.bnd.imp fun ds F1 H1 ⟨st1, q1⟩ vs rvs => ?_⟩
  obtain ⟨d, s, e, w, q2⟩ := q1.op
  split at e
  · rename_i hl
    cases e
    rw [rvs.length] at hl
    refine ⟨hl, fun p hp => q2 _ _ (Step.new w hp) (w.new hp) _ ⟨p, vs, rfl, SqT.of upd_same, hl, RepL.mono (Step.new w hp).fs _ _ rvs⟩⟩
  · cases e

section
variable (X dl)
def rD (g : D → D → Option D) : R2 := fun x y H Q => ∃ (F : Hp) (s : DS) (a b d : D), Wd dl F H s ∧ Rep X.K X.mg dl F a x ∧ Rep X.K X.mg dl F b y ∧ g a b = some d ∧ ∀ F' H' v, Step dl F H F' H' → Wd dl F' H' s → Rep X.K X.mg dl F' d v → Q v H'
def rUD (g : D → Option D) : V → Hp → VK → Prop := fun x H Q => ∃ (F : Hp) (s : DS) (a d : D), Wd dl F H s ∧ Rep X.K X.mg dl F a x ∧ g a = some d ∧ ∀ F' H' v, Step dl F H F' H' → Wd dl F' H' s → Rep X.K X.mg dl F' d v → Q v H'
def rCD (g : List D → Option D) : List V → Hp → VK → Prop := fun xs H Q => ∃ (F : Hp) (s : DS) (ds : List D) (d : D), Wd dl F H s ∧ RepL X.K X.mg dl F ds xs ∧ g ds = some d ∧ ∀ F' H' v, Step dl F H F' H' → Wd dl F' H' s → Rep X.K X.mg dl F' d v → Q v H'
end
def g2 (g : D → D → Option D) (fa fb : SE) : SE := fun G => bnd (fa G) fun a => bnd (fb G) fun b => ofO (g a b)
def g1 (g : D → Option D) (fa : SE) : SE := fun G => bnd (fa G) fun a => ofO (g a)
def gC (g : List D → Option D) (fa : SA) : SE := fun G => bnd (fa G) fun ds => ofO (g ds)
variable {a b c : Expr} {fa fb fc : SE} {pos : Pos} {g g' : D → D → Option D}
theorem tOp_of {sg : L2.St} {H : Hp} {Q : VK} (q : tD X dl W (g2 g fa fb) sg H Q) : tOp (rD X dl g) (tD X dl W fa) (tD X dl W fb) sg H Q := by
  obtain ⟨F, q⟩ := q
  refine ⟨F, q.bnd.imp fun x F1 H1 ⟨st1, q1⟩ v rv => ⟨F1, q1.bnd.imp fun y F2 H2 ⟨st2, q2⟩ u ru => ?_⟩⟩
  obtain ⟨d, s, e, w, q3⟩ := q2.op
  exact ⟨F2, s, x, y, d, w, Rep.mono st2.fs _ _ rv, ru, e, fun F' H' v st w r => q3 F' H' st w v r⟩
theorem de_bin {op : Operator} (ho : OpR X (binaryOp op) (rD X dl g)) (ha : DE X dl W a fa) (hb : DE X dl W b fb) : DE X dl W (.BinOp a op b pos) (g2 g fa fb) := PE.of (pe_op ho ha hb) fun _ _ _ q => tOp_of q
theorem de_cmp {op : CmpOp} (ho : OpR X (compareOp op) (rD X dl g)) (ha : DE X dl W a fa) (hb : DE X dl W b fb) (hm : behindInMarks op b = false) : DE X dl W (.Compare a [op] [b] pos) (g2 g fa fb) := PE.of (pe_cmpR ho ha hb hm) fun _ _ _ q => tOp_of q
theorem de_un {op : UnaryOp} {g : D → Option D} (ho : UnR X (unaryOp op) (rUD X dl g)) (ha : DE X dl W a fa) : DE X dl W (.UnaryOp op a pos) (g1 g fa) := by
  refine PE.of (pe_un ho ha) fun sg H Q q => ?_
  obtain ⟨F, q⟩ := q
  refine ⟨F, q.bnd.imp fun x F1 H1 ⟨st1, q1⟩ v rv => ?_⟩
  obtain ⟨d, s, e, w, q3⟩ := q1.op
  exact ⟨F1, s, x, d, w, rv, e, fun F' H' v st w r => q3 F' H' st w v r⟩

def asB : D → Option Bool
  | .bl b => some b
  | _ => none
def tB' (f : SE) : ST := fun G => bnd (f G) fun d => ofO (asB d)
theorem asB_some {d : D} {b : Bool} (e : asB d = some b) : d = .bl b := by
  cases d <;> simp [asB] at e
  subst e; rfl
theorem tTest_of {f : SE} {sg : L2.St} {H : Hp} {Q : Bool → Hp → Prop} (q : tDT X dl W (tB' f) sg H Q) : tD X dl W f sg H fun x H' => ∃ k, x = .bl k ∧ Q k H' := by
  obtain ⟨F, q⟩ := q
  refine ⟨F, q.bnd.imp fun d F1 H1 ⟨st1, q1⟩ v rv => ?_⟩
  obtain ⟨k, s, e, w, q3⟩ := q1.op
  cases asB_some e
  exact ⟨k, rv, q3 F1 H1 Step.refl w⟩
theorem dt_val {e : Expr} {f : SE} (h : DE X dl W e f) (he : ∀ whole, isTrue e X.env whole = (do let v ← whole; standAt e.pos; holding [v] (truthy v)) := by intro _; rfl) : DT X dl W e (tB' f) := PT.of (pt_val h he) fun _ _ _ q => tTest_of q
theorem dt_cmp {op : CmpOp} (ho : OpR X (compareOp op) (rD X dl g)) (ha : DE X dl W a fa) (hb : DE X dl W b fb) (hm : behindInMarks op b = false) : DT X dl W (.Compare a [op] [b] pos) (tB' (g2 g fa fb)) := by
  refine PT.of (pt_cmpR ho ha hb hm) fun sg H Q q => ?_
  have q' := tTest_of q
  exact tOp_of q'
/-- a op b op' c -/
def g3 (g g' : D → D → Option D) (fa fb fc : SE) : SE := fun G => bnd (fa G) fun x => bnd (fb G) fun y => bnd (ofO (g x y)) fun r => bnd (ofO (asB r)) fun k => if k then bnd (fc G) fun z => ofO (g' y z) else ret (.bl false)
theorem tChain_of {sg : L2.St} {H : Hp} {Q : VK} (q : tD X dl W (g3 g g' fa fb fc) sg H Q) : tChain (rD X dl g) (rD X dl g') (tD X dl W fa) (tD X dl W fb) (tD X dl W fc) sg H Q := by
  obtain ⟨F, q⟩ := q
  refine ⟨F, q.bnd.imp fun x F1 H1 ⟨st1, q1⟩ v rv => ⟨F1, q1.bnd.imp fun y F2 H2 ⟨st2, q2⟩ u ru => ?_⟩⟩
  obtain ⟨r, s, e, w, q3⟩ := q2.bnd.op
  refine ⟨F2, s, x, y, r, w, Rep.mono st2.fs _ _ rv, ru, e, fun F3 H3 z st3 w3 rz => ?_⟩
  obtain ⟨st23, q4⟩ := q3 F3 H3 st3 w3
  obtain ⟨k, s4, e4, w4, q5⟩ := q4.bnd.op
  cases asB_some e4
  refine ⟨k, rz, ?_⟩
  obtain ⟨_, q6⟩ := q5 F3 H3 Step.refl w4
  cases k with
  | false =>
    rw [if_neg Bool.false_ne_true]
    exact q6.rt _ rfl
  | true =>
    rw [if_pos rfl]
    refine ⟨F3, q6.bnd.imp fun z' F5 H5 ⟨st5, q7⟩ u' ru' => ?_⟩
    obtain ⟨d, s7, e7, w7, q8⟩ := q7.op
    exact ⟨F5, s7, y, z', d, w7, Rep.mono (st23.trans st5).fs _ _ ru, ru', e7, fun F' H' v st w r => q8 F' H' st w v r⟩
theorem de_chain {op op' : CmpOp} (ho : OpR X (compareOp op) (rD X dl g)) (ho' : OpR X (compareOp op') (rD X dl g')) (ha : DE X dl W a fa) (hb : DE X dl W b fb) (hc : DE X dl W c fc)
    (hm : lastMarks [op, op'] [b, c] = false := by with_unfolding_all rfl) : DE X dl W (.Compare a [op, op'] [b, c] pos) (g3 g g' fa fb fc) := PE.of (pe_chain ho ho' ha hb hc hm) fun _ _ _ q => tChain_of q
theorem dt_chain {op op' : CmpOp} (ho : OpR X (compareOp op) (rD X dl g)) (ho' : OpR X (compareOp op') (rD X dl g')) (ha : DE X dl W a fa) (hb : DE X dl W b fb) (hc : DE X dl W c fc)
    (hm : lastMarks [op, op'] [b, c] = false := by with_unfolding_all rfl) : DT X dl W (.Compare a [op, op'] [b, c] pos) (tB' (g3 g g' fa fb fc)) := PT.of (pt_chain ho ho' ha hb hc hm) fun _ _ _ q => tChain_of (tTest_of q)
variable {ua ub : ST} {rest : List Expr}
def bAnd (u v : ST) : ST := fun G => bnd (u G) fun c => if c then v G else ret false
def bOr (u v : ST) : ST := fun G => bnd (u G) fun c => if c then ret true else v G
def bNot (u : ST) : ST := fun G => bnd (u G) fun c => ret (!c)
theorem dw_and1 (ha : DT X dl W a ua) : DW X dl W (.BoolOp .And [a] pos) ua := pw_and1 ha
theorem dw_or1 (ha : DT X dl W a ua) : DW X dl W (.BoolOp .Or [a] pos) ua := pw_or1 ha
theorem dw_and (ha : DT X dl W a ua) (hb : DW X dl W (.BoolOp .And (b :: rest) pos) ub) : DW X dl W (.BoolOp .And (a :: b :: rest) pos) (bAnd ua ub) := by
  refine PW.of (pw_and ha hb) fun sg H Q q => ?_
  obtain ⟨F, q⟩ := q
  refine ⟨F, q.bnd.imp fun k F1 H1 ⟨st1, q1⟩ => ?_⟩
  cases k with
  | true => exact ⟨F1, q1⟩
  | false => exact q1.rt
theorem dw_or (ha : DT X dl W a ua) (hb : DW X dl W (.BoolOp .Or (b :: rest) pos) ub) : DW X dl W (.BoolOp .Or (a :: b :: rest) pos) (bOr ua ub) := by
  refine PW.of (pw_or ha hb) fun sg H Q q => ?_
  obtain ⟨F, q⟩ := q
  refine ⟨F, q.bnd.imp fun k F1 H1 ⟨st1, q1⟩ => ?_⟩
  cases k with
  | true => exact q1.rt
  | false => exact ⟨F1, q1⟩
theorem dt_w {e : Expr} {u : ST} (h : DW X dl W e u) : DT X dl W e u := h.pt
theorem dt_not (ha : DT X dl W a ua) : DT X dl W (.UnaryOp .Not a pos) (bNot ua) := by
  refine PT.of (pt_not ha) fun sg H Q q => ?_
  obtain ⟨F, q⟩ := q
  exact ⟨F, q.bnd.imp fun k F1 H1 ⟨st1, q1⟩ => q1.rt⟩
/-- .. as values -/
def vAnd (f h : SE) : SE := fun G => bnd (f G) fun d => bnd (ofO (asB d)) fun k => if k then h G else ret (.bl false)
def vOr (f h : SE) : SE := fun G => bnd (f G) fun d => bnd (ofO (asB d)) fun k => if k then ret (.bl true) else h G
def vNot (f : SE) : SE := fun G => bnd (f G) fun d => bnd (ofO (asB d)) fun k => ret (.bl (!k))
theorem de_one {op} (h : DE X dl W a fa) : DE X dl W (.BoolOp op [a] pos) fa := pe_one h
theorem de_and (ha : DE X dl W a fa) (hb : DE X dl W (.BoolOp .And (b :: rest) pos) fb) : DE X dl W (.BoolOp .And (a :: b :: rest) pos) (vAnd fa fb) := by
  refine PE.of (pe_and ha hb) fun sg H Q q => ?_
  obtain ⟨F, q⟩ := q
  refine ⟨F, q.bnd.imp fun d F1 H1 ⟨st1, q1⟩ v rv => ?_⟩
  obtain ⟨k, s, e, w, q2⟩ := q1.bnd.op
  cases asB_some e
  refine ⟨k, rv, ?_⟩
  obtain ⟨_, q3⟩ := q2 F1 H1 Step.refl w
  cases k with
  | true => rw [if_pos rfl]; exact ⟨F1, q3⟩
  | false => rw [if_neg Bool.false_ne_true]; exact q3.rt _ rfl
theorem de_or (ha : DE X dl W a fa) (hb : DE X dl W (.BoolOp .Or (b :: rest) pos) fb) : DE X dl W (.BoolOp .Or (a :: b :: rest) pos) (vOr fa fb) := by
  refine PE.of (pe_or ha hb) fun sg H Q q => ?_
  obtain ⟨F, q⟩ := q
  refine ⟨F, q.bnd.imp fun d F1 H1 ⟨st1, q1⟩ v rv => ?_⟩
  obtain ⟨k, s, e, w, q2⟩ := q1.bnd.op
  cases asB_some e
  refine ⟨k, rv, ?_⟩
  obtain ⟨_, q3⟩ := q2 F1 H1 Step.refl w
  cases k with
  | true => rw [if_pos rfl]; exact q3.rt _ rfl
  | false => rw [if_neg Bool.false_ne_true]; exact ⟨F1, q3⟩
theorem de_not (ha : DE X dl W a fa) : DE X dl W (.UnaryOp .Not a pos) (vNot fa) := by
  refine PE.of (pe_not ha) fun sg H Q q => ?_
  obtain ⟨F, q⟩ := q
  refine ⟨F, q.bnd.imp fun d F1 H1 ⟨st1, q1⟩ v rv => ?_⟩
  obtain ⟨k, s, e, w, q2⟩ := q1.bnd.op
  cases asB_some e
  obtain ⟨_, q3⟩ := q2 F1 H1 Step.refl w
  exact ⟨k, rv, q3.rt _ rfl⟩
def vIf (u : ST) (f h : SE) : SE := fun G => bnd (u G) fun k => if k then f G else h G
theorem de_ifExp (hc : DT X dl W c ua) (ha : DE X dl W a fa) (hb : DE X dl W b fb) : DE X dl W (.IfExp c a b pos) (vIf ua fa fb) := by
  refine PE.of (pe_ifExp hc ha hb) fun sg H Q q => ?_
  obtain ⟨F, q⟩ := q
  refine ⟨F, q.bnd.imp fun k F1 H1 ⟨st1, q1⟩ => ?_⟩
  cases k with
  | true => rw [if_pos rfl]; exact ⟨F1, q1⟩
  | false => rw [if_neg Bool.false_ne_true]; exact ⟨F1, q1⟩

variable {x : Str} {p : Pos} {id T : String} {gc : List D → Option D} {es : List Expr} {ra : SA} {e : Expr}
theorem tCB_of {sg : L2.St} {H : Hp} {Q : VK} (q : tD X dl W (gC gc ra) sg H Q) : tCB (rCD X dl gc) (tDA X dl W ra) sg H Q := by
  obtain ⟨F, q⟩ := q
  refine ⟨F, q.bnd.imp fun ds F1 H1 ⟨st1, q1⟩ vs rvs => ?_⟩
  obtain ⟨d, s, e, w, q3⟩ := q1.op
  exact ⟨F1, s, ds, d, w, rvs, e, fun F' H' v st w r => q3 F' H' st w v r⟩
theorem de_callB (hc : CallR X (.builtin id) (rCD X dl gc)) (hg : Gl X x) (hm : X.mg x = none) (hv : bootBuiltins x = some (.builtin id)) (ha : DA X dl W (e :: es) ra) (hn : x ≠ "__name__" := by decide) (hdb : (x == ("__debug__" : Str)) = false := by decide)
    (he : starEach (e :: es) X.env = (false, eval e X.env) :: starEach es X.env := by rfl) (hpl : (backTo pos (starEach es X.env)).any (·.1) = false := by rfl) : DE X dl W (.Call (.Name x p) (e :: es) [] pos) (gC gc ra) :=
  PE.of (pe_callB hc hg hm hv ha hn hdb he hpl) fun _ _ _ q => tCB_of q
theorem de_callTy (hc : CallR X (.type T) (rCD X dl gc)) (hg : Gl X x) (hm : X.mg x = none) (hv : bootBuiltins x = some (.type T)) (ha : DA X dl W (e :: es) ra) (hn : x ≠ "__name__" := by decide) (hdb : (x == ("__debug__" : Str)) = false := by decide)
    (he : starEach (e :: es) X.env = (false, eval e X.env) :: starEach es X.env := by rfl) (hpl : (backTo pos (starEach es X.env)).any (·.1) = false := by rfl) : DE X dl W (.Call (.Name x p) (e :: es) [] pos) (gC gc ra) :=
  PE.of (pe_callTy hc hg hm hv ha hn hdb he hpl) fun _ _ _ q => tCB_of q
theorem de_ix (hr : IxR X (rD X dl g)) (ha : DE X dl W a fa) (hb : DE X dl W b fb) (hs : PlainIx b) : DE X dl W (.Subscript a b pos) (g2 g fa fb) := PE.of (pe_ix hr ha hb hs) fun _ _ _ q => tOp_of q
end
end EK


namespace EK
open PySem PySem.Spec PyProof.Rows L2

section
variable {mg : Str → Option Value} {K : PySem.W.Frag} {dl : Dr} {W : XK'} {F H F1 H1 : Hp}
theorem Go.at {α β : Type} {m : M α} {k : α → M β} {s : DS} {q : β → DS → Hp → Hp → Prop} (st : Step dl F H F1 H1) (h : Go mg K dl W F H (EK.bnd m k s) q) :
    Go mg K dl W F1 H1 (m s) fun a s' _ _ => Go mg K dl W F H (k a s') q := by
  unfold EK.bnd at h
  cases e : m s with
  | none => rw [e] at h; exact h
  | some p =>
    obtain ⟨r, s1⟩ := p
    rw [e] at h
    cases r with
    | err x => exact fun F' H' cls d st' w' => h F' H' cls d (st.trans st') w'
    | ok a => exact fun F' H' st' w' => h
end

section
variable (X : Cx) (dl : Dr) (W : WX)
/-- a fresh list at a, not among what never changes -/
def NewL (H : Hp) (ds : List D) (F' H' : Hp) (a : Addr) : Prop := H a = none ∧ F' a = none ∧ ∃ vs, H' a = some (.lst vs) ∧ vs.length ≤ sizeLine ∧ RepL X.K X.mg dl F' ds vs
def tDO (f : SA) : TE := fun sg H Q => ∃ F, tGF X dl W F f (fun ds F' H' => ∀ a, NewL X dl H ds F' H' a → Q (.ref a) H') sg H
abbrev DEO (e : Expr) (f : SA) : Prop := PE X e (tDO X dl W f)
end
section
variable {X : Cx} {dl : Dr} {W : WX}
/-- freezing -/
theorem Same.updN {F : Hp} {a : Addr} {o : HO} (n : F a = none) : Same F (upd F a o) := fun b u e => by rw [upd_ne (ne_of_none e n)]; exact e
theorem Wd.freeze {F H : Hp} {s : DS} {a : Addr} {o : HO} (w : Wd dl F H s) (h : H a = some o) (n : F a = none) (nd : ¬ dl.has a) : Wd dl (upd F a o) H s := by
  refine ⟨fun b u e => ?_, fun b hb => ?_, w.dr, w.tb.mono (Same.updN n) (fun _ _ _ e => e) fun _ _ e => .inl e⟩
  · by_cases z : b = a
    · subst z; rw [upd_same] at e; rw [h]; exact e
    · rw [upd_ne z] at e; exact w.sub b u e
  · rw [upd_ne (fun z => nd (by rw [← z]; exact hb))]; exact w.off b hb
def gLO (f : SA) : SE := fun G => bnd (f G) fun ds => ret (.lst ds)
theorem ownR {f : SA} {sg : L2.St} {H : Hp} {Q : VK} (q : tD X dl W (gLO f) sg H Q) : tDO X dl W f sg H Q := by
  obtain ⟨F, q⟩ := q
  obtain ⟨F0, H0, G, s, w, S, g⟩ := q
  refine ⟨F, F0, H0, G, s, w, S, ?_⟩
  refine Go.imp (Go.at Step.refl g) fun ds s1 F1 H1 st1 w1 g1 a na => ?_
  obtain ⟨n1, n2, vs, h1, h2, h3⟩ := na
  have nd : ¬ dl.has a := w.na n1
  exact g1 (upd F1 a (.lst vs)) H1 ⟨fun b u e => Same.updN n2 b u (st1.fs b u e), st1.hs, fun b u e => by
      by_cases z : b = a
      · subst z; exact .inr n1
      · rw [upd_ne z] at e; exact st1.nw b u e, st1.al⟩ (w1.freeze h1 n2 nd) _ ⟨a, vs, rfl, upd_same, h2, RepL.mono (Same.updN n2) _ _ h3⟩
theorem de_own {e : Expr} {f : SA} (h : DEO X dl W e f) : DE X dl W e (gLO f) := PE.of h fun _ _ _ q => ownR q
theorem deo_lst {es : List Expr} {r : SA} {pos : Pos} (h : DA X dl W es r) : DEO X dl W (.List es pos) (fun G => bnd (r G) fun ds => ofO (if ds.length ≤ sizeLine then some ds else none)) := by
  refine PE.of (pe_lst h) fun sg H Q q => ?_
  obtain ⟨F, q⟩ := q
  refine ⟨F, q.bnd.imp fun ds F1 H1 ⟨st1, q1⟩ vs rvs => ?_⟩
  obtain ⟨d, s, e, w, q2⟩ := q1.op
  split at e
  · rename_i hl
    cases e
    rw [rvs.length] at hl
    exact ⟨hl, fun p hp => q2 _ _ (Step.newO hp) (w.newO hp) p ⟨st1.al p hp, w.fnone hp, vs, upd_same, hl, rvs⟩⟩
  · cases e

end
section
variable (X : Cx) (dl : Dr)
abbrev SG := Sls → D → Option Sls
def gD (is : List Nat) (f : SG) : TG := fun v sg H Q => ∃ (F0 H0 F : Hp) (G : Sls) (s : DS) (d : D) (G' : Sls), Wd dl F H s ∧ Sim X.K X.mg dl F0 H0 F H sg G ∧ Rep X.K X.mg dl F d v ∧ f G d = some G' ∧
  ∀ sg', (∀ vs : List Nat, (∀ i ∈ is, i ∈ vs) → wipe sg' vs = wipe sg vs) → Sim X.K X.mg dl F0 H0 F H sg' G' → Q sg' H
abbrev DG (tg : Expr) (is : List Nat) (f : SG) : Prop := PG X tg (gD X dl is f)
end
theorem PG.of {X : Cx} {e : Expr} {t t' : TG} (h : PG X e t) (w : ∀ v sg H Q, t' v sg H Q → t v sg H Q) : PG X e t' := ⟨fun pins s sg H v u Q I r q => h.run pins s sg H v u Q I r (w _ _ _ _ q)⟩
theorem PI.of {X : Cx} {tg e : Expr} {t t' : TI} (h : PI X tg e t) (w : ∀ sg H Q, t' sg H Q → t sg H Q) : PI X tg e t' := ⟨fun pins s sg H R I q => h.run pins s sg H R I (w _ _ _ q)⟩
section
variable {K : PySem.W.Frag} {mg : Str → Option Value} {dl : Dr} {F0 H0 F H : Hp} {sg : L2.St} {G : Sls}
/-- a value that never changes, put into a slot -/
theorem Sim.put {i : Nat} {d : D} {v : V} (S : Sim K mg dl F0 H0 F H sg G) (r : Rep K mg dl F d v) : Sim K mg dl F0 H0 F H (sg.set i (some v)) (G.set i (some (.fz d))) := by
  refine ⟨by rw [List.length_set, List.length_set]; exact S.len, fun j s e => ?_, fun j k s t e1 e2 o1 o2 e3 => ?_, S.st, S.tr.put (fun _ z => nomatch z) (fun z => nomatch z)⟩
  · by_cases z : i = j
    · subst z
      have hl : i < G.length := by
        rw [List.getElem?_set] at e
        simp only [if_pos rfl] at e
        by_cases q : i < G.length
        · exact q
        · rw [if_neg q] at e; cases e
      rw [List.getElem?_set_self hl] at e
      cases e
      exact ⟨v, List.getElem?_set_self (by rw [← S.len]; exact hl), r⟩
    · rw [List.getElem?_set_ne z] at e
      rw [List.getElem?_set_ne z]
      exact S.sl j s e
  · have nz : ∀ m (u : Sl), (G.set i (some (.fz d)))[m]? = some (some u) → u.isOwn = true → i ≠ m := fun m u e o z => by
      subst z
      by_cases q : i < G.length
      · rw [List.getElem?_set_self q] at e; cases e; cases o
      · rw [List.getElem?_set] at e
        simp [q] at e
    have z1 := nz j s e1 o1
    have z2 := nz k t e2 o2
    rw [List.getElem?_set_ne z1] at e1 e3
    rw [List.getElem?_set_ne z2] at e2 e3
    exact S.dis j k s t e1 e2 o1 o2 e3
theorem wipe_set : ∀ (vs : List Nat) (sg : L2.St) (i : Nat) (x : Option V), i ∈ vs → wipe (sg.set i x) vs = wipe sg vs
  | [], _, _, _, h => by simp at h
  | v :: vs, sg, i, x, h => by
    unfold wipe
    by_cases q : i ∈ vs
    · rw [wipe_set vs sg i x q]
    · have e : i = v := by
        rcases List.mem_cons.mp h with z | z
        · exact z
        · exact absurd z q
      subst e
      apply List.ext_getElem?
      intro j
      by_cases hj : i = j
      · subst hj
        simp only [List.getElem?_set, wipe_length, List.length_set, if_true]
      · rw [List.getElem?_set_ne hj, List.getElem?_set_ne hj]
        have gen : ∀ us : List Nat, (wipe (sg.set i x) us)[j]? = (wipe sg us)[j]? := by
          intro us
          induction us with
          | nil => exact List.getElem?_set_ne hj
          | cons u us ih =>
            unfold wipe
            by_cases hu : u = j
            · subst hu
              simp only [List.getElem?_set, wipe_length, List.length_set, if_true]
            · rw [List.getElem?_set_ne hu, List.getElem?_set_ne hu]
              exact ih
        exact gen vs
end
section
variable {X : Cx} {dl : Dr} {W : WX} {pos : Pos}
/-- a name -/
def sgN (i : Nat) : SG := fun G d => some (G.set i (some (.fz d)))
theorem dg_name (i : Nat) {x : Str} (hN : X.N.Nodup) (hi : X.N[i]? = some x := by rfl) (hx : Loc X.env.scope x := by first | exact Or.inl rfl | exact Or.inr rfl) (hf : X.fn x = true ∨ X.env.scope.names.lookup x = some .local := by first | exact .inl rfl | exact .inr rfl | assumption) : DG X dl (.Name x pos) [i] (sgN i) := by
  refine PG.of (pg_name hN hi hx hf) fun v sg H Q q => ?_
  obtain ⟨F0, H0, F, G, s, d, G', w, S, r, e, k⟩ := q
  cases e
  exact k _ (fun vs h => wipe_set vs sg i _ (h i List.mem_cons_self)) (S.put r)
/-- several targets -/
def sgNil : Sls → List D → Option Sls := fun G ds => match ds with | [] => some G | _ => none
def sgCons (f : SG) (r : Sls → List D → Option Sls) : Sls → List D → Option Sls := fun G ds => match ds with
  | [] => none
  | d :: ds => (f G d).bind fun G' => r G' ds
def itemsT : D → Option (List D)
  | .tup xs => some xs
  | _ => none
def sgT (r : Sls → List D → Option Sls) : SG := fun G d => (itemsT d).bind fun ds => r G ds
section
variable (X dl)
def gDs (is : List Nat) (f : Sls → List D → Option Sls) : TGs := fun vs sg H Q => ∃ (F0 H0 F : Hp) (G : Sls) (s : DS) (ds : List D) (G' : Sls), Wd dl F H s ∧ Sim X.K X.mg dl F0 H0 F H sg G ∧ RepL X.K X.mg dl F ds vs ∧ f G ds = some G' ∧
  ∀ sg', (∀ vs : List Nat, (∀ i ∈ is, i ∈ vs) → wipe sg' vs = wipe sg vs) → Sim X.K X.mg dl F0 H0 F H sg' G' → Q sg' H
end
theorem PGs.of {es : List Expr} {t t' : TGs} (h : PGs X es t) (w : ∀ v sg H Q, t' v sg H Q → t v sg H Q) : PGs X es t' := ⟨fun pins s sg H v u Q I r q => h.run pins s sg H v u Q I r (w _ _ _ _ q)⟩
theorem dgs_nil : PGs X [] (gDs X dl [] sgNil) := by
  refine PGs.of pgs_nil fun vs sg H Q q => ?_
  obtain ⟨F0, H0, F, G, s, ds, G', w, S, r, e, k⟩ := q
  cases ds with
  | cons _ _ => cases e
  | nil => cases e; exact ⟨r, k sg (fun _ _ => rfl) S⟩
theorem dgs_cons {e : Expr} {es : List Expr} {is js : List Nat} {f : SG} {r : Sls → List D → Option Sls} (h1 : DG X dl e is f) (h2 : PGs X es (gDs X dl js r))
    (hs : (assignEach (e :: es) X.env).map (·.2) = assign e X.env :: (assignEach es X.env).map (·.2) := by rfl) : PGs X (e :: es) (gDs X dl (is ++ js) (sgCons f r)) := by
  refine PGs.of (pgs_cons h1 h2 hs) fun vs sg H Q q => ?_
  obtain ⟨F0, H0, F, G, s, ds, G', w, S, rp, e, k⟩ := q
  cases ds with
  | nil => cases e
  | cons d ds =>
    obtain ⟨v, vs', e1, rd, rds⟩ := rp
    subst e1
    unfold sgCons at e
    cases e2 : f G d with
    | none => simp [e2] at e
    | some G1 =>
      simp only [e2, Option.bind_some] at e
      refine ⟨v, vs', rfl, F0, H0, F, G, s, d, G1, w, S, rd, e2, fun sg1 hw1 S1 => ?_⟩
      refine ⟨F0, H0, F, G1, s, ds, G', w, S1, rds, e, fun sg2 hw2 S2 => k sg2 (fun us hu => ?_) S2⟩
      rw [hw2 us (fun i hi => hu i (List.mem_append_right _ hi)), hw1 us (fun i hi => hu i (List.mem_append_left _ hi))]
theorem dg_tup {es : List Expr} {kk : Nat} {is : List Nat} {r : Sls → List D → Option Sls} {n : Nat} (hc : X.calm = true) (hlen : ∀ G ds G', r G ds = some G' → ds.length = n) (h : PGs X es (gDs X dl is r))
    (hn : (assignEach es X.env).length = n := by rfl) (hst : (assignEach es X.env).findIdx? (·.1) = none := by rfl) : DG X dl (.Tuple es kk pos) is (sgT r) := by
  refine PG.of (pg_tup (n := n) hc h hn hst) fun v sg H Q q => ?_
  obtain ⟨F0, H0, F, G, s, d, G', w, S, rp, e, k⟩ := q
  unfold sgT at e
  cases d with
  | tup ds =>
    obtain ⟨a, vs, h1, h2, h3, h4⟩ := rp
    simp only [itemsT, Option.bind_some] at e
    exact ⟨a, vs, h1, Same.seqT w.sub h2, by rw [← h4.length]; exact hlen _ _ _ e, F0, H0, F, G, s, ds, G', w, S, h4, e, k⟩
  | _ => simp [itemsT] at e

section
variable (X dl W)
def Keep (H H1 : Hp) : Prop := ∀ b o, ¬ dl.has b → H b = some o → H1 b = some o
def DY (F : Hp) (ds : List D) : Nat → Hp → V → Hp → Prop := fun i H1 x H2 => ∀ F1 s, Same F F1 → Wd dl F1 H1 s → ∃ F2 d, Step dl F1 H1 F2 H2 ∧ Wd dl F2 H2 s ∧ ds[i]? = some d ∧ Rep X.K X.mg dl F2 d x
/-- walked while what never changes stands -/
def tIs (f : SA) : TI := fun sg H R => ∃ F, tGF X dl W F f (fun ds F' H' => ∀ J, ds.length ≤ sizeLine → Walk J ds.length (fun H1 => Same F' H1) (DY X dl F' ds) → R J H') sg H
/-- walked while all stands as it is -/
def tIm (f : SA) : TI := fun sg H R => ∃ F, tGF X dl W F f (fun ds F' H' => ∀ J, ds.length ≤ sizeLine → Walk J ds.length (fun H1 => Keep dl H' H1) (DY X dl F' ds) → R J H') sg H
abbrev DIs (tg e : Expr) (f : SA) : Prop := PI X tg e (tIs X dl W f)
abbrev DIm (tg e : Expr) (f : SA) : Prop := PI X tg e (tIm X dl W f)
end
theorem dim_of {tg e : Expr} {f : SA} (h : DIs X dl W tg e f) : DIm X dl W tg e f := by
  refine PI.of h fun sg H R q => ?_
  obtain ⟨F, F0, H0, G, s, w, S, g⟩ := q
  refine ⟨F, F0, H0, G, s, w, S, g.imp fun ds s1 F1 H1 st1 w1 k J hz wk => k J hz ?_⟩
  exact wk.mono (fun H2 hk b o e => hk b o (fun z => by rw [w1.off b z] at e; cases e) (w1.sub b o e)) fun i H2 x H3 _ _ y => y
theorem dy_at {F : Hp} {ds : List D} {vs : List V} (r : RepL X.K X.mg dl F ds vs) : ∀ i H1 x H2, YAt vs i H1 x H2 → DY X dl F ds i H1 x H2 := fun i H1 x H2 y F1 s sm w => by
  obtain ⟨e1, e2⟩ := y
  subst e1
  obtain ⟨d, h1, h2⟩ := r.get' e2
  exact ⟨F1, d, Step.refl, w, h1, Rep.mono sm d x h2⟩
/-- a thing that is a list, a tuple or a text -/
def iAny (K : PySem.W.Frag) (tl : TE) : TI := fun sg H R => tl sg H fun x H1 => (∃ a, x = .ref a ∧ (∃ xs, SqL K H1 a xs) ∧ R (Itl K a) H1) ∨ (∃ a, x = .ref a ∧ (∃ xs, SqT K H1 a xs) ∧ R (Itt K a) H1) ∨ ∃ z, x = .str z ∧ R (Its z) H1
theorem pi_any {tg l : Expr} {tl : TE} (hl : PE X l tl) : PI X tg l (iAny X.K tl) := by
  refine ⟨fun pins s sg H R I h => ?_⟩
  refine thn (hl.run pins s sg H _ I h) fun v s1 ⟨x, H1, I1, r1, q1⟩ => ?_
  rcases q1 with ⟨a, e, ⟨xs, hq⟩, q⟩ | ⟨a, e, ⟨xs, hq⟩, q⟩ | ⟨z, e, q⟩
  · subst e
    cases r1
    obtain ⟨its, rv, p, hz⟩ := I1.list hq
    refine wpAny_pyIter_list p.isList ?_
    refine ⟨s1.heap.objs.size, [s1.heap.objs.size], _, _, H1, rfl, I1.kept (t' := s1.toks) fun b o e => Heap.get?_push_of_some _ e, turn_list a _, ⟨_, Heap.get?_push_size _ rfl, rfl, rfl⟩, fun b hb => ?_, q⟩
    have e : b = s1.heap.objs.size := by simpa using hb
    subst e
    exact I1.fpOk (Nat.le_refl _) (I1.hok.fresh (Nat.le_refl _))
  · subst e
    cases r1
    obtain ⟨its, rv, p, hz⟩ := I1.tuple hq
    refine wpAny_pyIter_tuple (show s1.heap.IsTuple a its.toArray from p) ?_
    refine ⟨s1.heap.objs.size, [s1.heap.objs.size], _, _, H1, rfl, I1.kept (t' := s1.toks) fun b o e => Heap.get?_push_of_some _ e, turn_tuple a _, ⟨_, Heap.get?_push_size _ rfl, rfl, rfl⟩, fun b hb => ?_, q⟩
    have e : b = s1.heap.objs.size := by simpa using hb
    subst e
    exact I1.fpOk (Nat.le_refl _) (I1.hok.fresh (Nat.le_refl _))
  · subst e
    obtain ⟨t, rfl⟩ := r1
    cases ha : z.cps.all (· < 128)
    · exact wpAny_pyIter_wide ha (pi_one (tk := s1.toks) I1 _ (turn_str _ z t "str_iterator" (.inr rfl)) ⟨_, Heap.get?_push_size _ rfl, rfl, rfl⟩ q)
    · exact wpAny_pyIter_ascii ha (pi_one (tk := s1.toks) I1 _ (turn_str _ z t "str_ascii_iterator" (.inl rfl)) ⟨_, Heap.get?_push_size _ rfl, rfl, rfl⟩ q)
def chars (x : Str) : List D := x.cps.toList.map fun c => .str ⟨#[c]⟩
def itemsOf : D → Option (List D)
  | .lst xs => some xs
  | .tup xs => some xs
  | .str x => if x.cps.size ≤ 1000000 then some (chars x) else none
  | .scr xs => some (xs.map D.int)
  | _ => none
def gIt (f : SE) : SA := fun G => bnd (f G) fun d => ofO (itemsOf d)
theorem repL_ints {K : PySem.W.Frag} {mg : Str → Option Value} {F : Hp} : ∀ xs : List Int, RepL K mg dl F (xs.map D.int) (xs.map V.int)
  | [] => rfl
  | x :: xs => ⟨_, _, rfl, rfl, repL_ints xs⟩
theorem di_seq {tg e : Expr} {f : SE} (h : DE X dl W e f) : DIs X dl W tg e (gIt f) := by
  refine PI.of (pi_any h) fun sg H R q => ?_
  obtain ⟨F, q⟩ := q
  refine ⟨F, q.bnd.imp fun d F1 H1 ⟨st1, q1⟩ v rv => ?_⟩
  obtain ⟨ds, s, e1, w, q2⟩ := q1.op
  have q3 := q2 F1 H1 Step.refl w
  cases d with
  | lst ys =>
    cases e1
    obtain ⟨a, vs, h1, h2, h3, h4⟩ := rv
    refine .inl ⟨a, h1, ⟨vs, SqL.of (w.sub _ _ h2)⟩, q3 _ (by rw [h4.length]; exact h3) ?_⟩
    rw [h4.length]
    exact walk_list.mono (fun H2 sm => SqL.of (sm _ _ h2)) fun i H2 x H3 _ _ y => dy_at h4 i H2 x H3 y
  | tup ys =>
    cases e1
    obtain ⟨a, vs, h1, h2, h3, h4⟩ := rv
    refine .inr (.inl ⟨a, h1, ⟨vs, Same.seqT w.sub h2⟩, q3 _ (by rw [h4.length]; exact h3) ?_⟩)
    rw [h4.length]
    exact walk_tup.mono (fun H2 sm => Same.seqT sm h2) fun i H2 x H3 _ _ y => dy_at h4 i H2 x H3 y
  | scr ys =>
    cases e1
    obtain ⟨a, h1, h2, h3⟩ := rv
    refine .inl ⟨a, h1, ⟨_, L2.Same.seq w.sub h2⟩, q3 _ (by rw [List.length_map, sizeLine_eq]; omega) ?_⟩
    have hr : RepL X.K X.mg dl F1 (ys.map D.int) (ys.map V.int) := repL_ints ys
    rw [hr.length]
    exact walk_list.mono (fun H2 sm => L2.Same.seq sm h2) fun i H2 x H3 _ _ y => dy_at hr i H2 x H3 y
  | str z =>
    have e1 : (if z.cps.size ≤ 1000000 then some (chars z) else none) = some ds := e1
    by_cases hz : z.cps.size ≤ 1000000
    case neg => rw [if_neg hz] at e1; cases e1
    rw [if_pos hz] at e1
    cases e1
    have rv : v = .str z := rv
    have hl : (chars z).length = z.cps.size := by simp [chars]
    refine .inr (.inr ⟨z, rv, q3 _ (by rw [hl, sizeLine_eq]; omega) ?_⟩)
    rw [hl]
    refine walk_str.mono (fun _ _ => trivial) fun i H2 x H3 _ _ y F2 s2 sm w2 => ?_
    obtain ⟨y1, c, y2, y3⟩ := y
    subst y1
    refine ⟨F2, .str ⟨#[c]⟩, Step.refl, w2, ?_, y3⟩
    simp [chars, y2]
  | non => cases e1
  | bl _ => cases e1
  | int _ => cases e1
  | obj _ _ _ => cases e1
  | drw => cases e1
  | dct _ _ => cases e1
  | dcT _ _ => cases e1
  | exc _ _ _ => cases e1
/-- an own list, while nothing changes -/
def gItO (i : Nat) : SA := fun G => match G[i]? with
  | some (some (.own ds)) => ret ds
  | _ => fail
/-- range(n), range(a, b) -/
def upFrom (lo : Int) (n : Nat) : List D := (List.range n).map fun i => .int (lo + (i : Nat))
theorem upFrom_length (lo : Int) (n : Nat) : (upFrom lo n).length = n := by simp [upFrom]
def rng1 : List D → Option (List D)
  | [.int n] => if -1000000 ≤ n ∧ n < 1000000 then some (upFrom 0 n.toNat) else none
  | _ => none
def rng2 : List D → Option (List D)
  | [.int a, .int b] => if -1000000 ≤ a ∧ a < 1000000 ∧ -1000000 ≤ b ∧ b < 1000000 then some (upFrom a (b - a).toNat) else none
  | _ => none
theorem rng1_some {ds xs : List D} (h : rng1 ds = some xs) : ∃ n : Int, ds = [.int n] ∧ -1000000 ≤ n ∧ n < 1000000 ∧ xs = upFrom 0 n.toNat := by
  unfold rng1 at h
  split at h
  · split at h
    · rename_i hb
      cases h
      exact ⟨_, rfl, hb.1, hb.2, rfl⟩
    · cases h
  · cases h
theorem rng2_some {ds xs : List D} (h : rng2 ds = some xs) : ∃ a b : Int, ds = [.int a, .int b] ∧ (-1000000 ≤ a ∧ a < 1000000 ∧ -1000000 ≤ b ∧ b < 1000000) ∧ xs = upFrom a (b - a).toNat := by
  unfold rng2 at h
  split at h
  · split at h
    · rename_i hb
      cases h
      exact ⟨_, _, rfl, hb, rfl⟩
    · cases h
  · cases h
def gItC (k : List D → Option (List D)) (r : SA) : SA := fun G => bnd (r G) fun ds => ofO (k ds)
theorem walk_up {F : Hp} (lo : Int) (n : Nat) : Walk (Itr lo n) (upFrom lo n).length (fun H1 => Same F H1) (DY X dl F (upFrom lo n)) := by
  rw [upFrom_length]
  refine walk_range.mono (fun _ _ => trivial) fun i H2 x H3 hi _ y F2 s2 sm w2 => ?_
  obtain ⟨y1, y2⟩ := y
  subst y1
  refine ⟨F2, .int (lo + i), Step.refl, w2, ?_, y2⟩
  simp [upFrom, hi]
end
end EK


namespace EK
open PySem PySem.Spec PyProof.Rows L2
section
variable {X : Cx} {dl : Dr} {W : WX} {pos p tpos : Pos}
theorem di_range1 {tg a : Expr} {r : SA} (hg : Gl X "range") (hm : X.mg "range" = none) (ha : DA X dl W [a] r) (hs : starEach [a] X.env = [(false, eval a X.env)] := by rfl) : DIs X dl W tg (.Call (.Name "range" p) [a] [] pos) (gItC rng1 r) := by
  refine PI.of (pi_range1 hg hm ha hs) fun sg H R q => ?_
  obtain ⟨F, q⟩ := q
  refine ⟨F, q.bnd.imp fun ds F1 H1 ⟨st1, q1⟩ vs rvs => ?_⟩
  obtain ⟨xs, s, e1, w, q2⟩ := q1.op
  obtain ⟨n, rfl, hb1, hb2, rfl⟩ := rng1_some e1
  obtain ⟨v, vs', rfl, h1, h2⟩ := rvs
  have h1 : v = .int n := h1
  have h2 : vs' = [] := h2
  subst h1; subst h2
  exact ⟨n, rfl, by omega, by omega, q2 F1 H1 Step.refl w _ (by rw [upFrom_length, sizeLine_eq]; omega) (walk_up 0 n.toNat)⟩
theorem di_range2 {tg a b : Expr} {r : SA} (hg : Gl X "range") (hm : X.mg "range" = none) (ha : DA X dl W [a, b] r) (hs : starEach [a, b] X.env = [(false, eval a X.env), (false, eval b X.env)] := by rfl) (hs2 : starEach [b] X.env = [(false, eval b X.env)] := by rfl) :
    DIs X dl W tg (.Call (.Name "range" p) [a, b] [] pos) (gItC rng2 r) := by
  refine PI.of (pi_range2 hg hm ha hs hs2) fun sg H R q => ?_
  obtain ⟨F, q⟩ := q
  refine ⟨F, q.bnd.imp fun ds F1 H1 ⟨st1, q1⟩ vs rvs => ?_⟩
  obtain ⟨xs, s, e1, w, q2⟩ := q1.op
  obtain ⟨m, n, rfl, hb, rfl⟩ := rng2_some e1
  obtain ⟨v, vs', rfl, h1, u, us', rfl, h2, h3⟩ := rvs
  have h1 : v = .int m := h1
  have h2 : u = .int n := h2
  have h3 : us' = [] := h3
  subst h1; subst h2; subst h3
  exact ⟨m, n, rfl, by omega, q2 F1 H1 Step.refl w _ (by rw [upFrom_length, sizeLine_eq]; omega) (walk_up m (n - m).toNat)⟩
/-- zip of two lists, of two tuples -/
def zipD (xs ys : List D) : List D := (xs.zip ys).map fun p => .tup [p.1, p.2]
def zip2 : List D → Option (List D)
  | [.lst xs, .lst ys] => some (zipD xs ys)
  | [.tup xs, .tup ys] => some (zipD xs ys)
  | _ => none
theorem two_le : (2 : Nat) ≤ sizeLine := by rw [sizeLine_eq]; decide
def wipeG (G : Sls) : List Nat → Sls
  | [] => G
  | v :: vs => (wipeG G vs).set v none
theorem wipeG_length (G : Sls) : ∀ vs : List Nat, (wipeG G vs).length = G.length
  | [] => rfl
  | v :: vs => by unfold wipeG; rw [List.length_set, wipeG_length G vs]
theorem wipeG_some {G : Sls} {i : Nat} {x : Sl} : ∀ {vs : List Nat}, (wipeG G vs)[i]? = some (some x) → G[i]? = some (some x) ∧ i ∉ vs
  | [], h => ⟨h, by simp⟩
  | v :: vs, h => by
    unfold wipeG at h
    by_cases z : v = i
    · subst z
      rw [List.getElem?_set] at h
      simp at h
    · rw [List.getElem?_set_ne z] at h
      obtain ⟨h1, h2⟩ := wipeG_some h
      exact ⟨h1, by simp [h2, Ne.symm z]⟩
theorem wipe_keep {sg : L2.St} {i : Nat} : ∀ {vs : List Nat}, i ∉ vs → (wipe sg vs)[i]? = sg[i]?
  | [], _ => rfl
  | v :: vs, h => by
    unfold wipe
    rw [List.getElem?_set_ne (fun z => h (by simp [z]))]
    exact wipe_keep fun z => h (by simp [z])
theorem Sim.wipe {K : PySem.W.Frag} {mg : Str → Option Value} {F0 H0 F H : Hp} {sg : L2.St} {G : Sls} (S : Sim K mg dl F0 H0 F H sg G) (vs : List Nat) : Sim K mg dl F0 H0 F H (L2.wipe sg vs) (wipeG G vs) := by
  refine ⟨by rw [wipeG_length, wipe_length]; exact S.len, fun i s e => ?_, fun i j s t e1 e2 o1 o2 e3 => ?_, S.st, S.tr.keep (fun j t e => ⟨(wipeG_some e).1, wipe_keep (wipeG_some e).2⟩) (fun _ _ z => z) (fun _ _ _ _ _ _ _ _ hf _ => ⟨rfl, hf⟩) fun fp T j s a ej o es i t ei => T.nx i j t s a ei (wipeG_some ej).1 o (by rw [← wipe_keep (wipeG_some ej).2]; exact es)⟩
  · obtain ⟨h1, h2⟩ := wipeG_some e
    rw [wipe_keep h2]
    exact S.sl i s h1
  · obtain ⟨h1, h2⟩ := wipeG_some e1
    obtain ⟨h3, h4⟩ := wipeG_some e2
    rw [wipe_keep h2, wipe_keep h4] at e3
    exact S.dis i j s t h1 h3 o1 o2 e3
/-- the items, one by one -/
def lcM (f : SG) (u : ST) (h : SE) (G : Sls) : List D → M (List D)
  | [] => ret []
  | d :: ds => bnd (ofO (f G d)) fun G' => bnd (u G') fun k => if k then bnd (h G') fun y => bnd (lcM f u h G ds) fun r => ret (y :: r) else lcM f u h G ds
def gLc (vs : List Nat) (it : SA) (f : SG) (u : ST) (h : SE) : SA := fun G => bnd (it G) fun ds => noErr (lcM f u h (wipeG G vs) ds)
def yes : ST := fun _ => ret true
abbrev WF : WX := fun _ _ _ _ => False
theorem dts_nil : PTs X [] (tDT X dl W yes) := ⟨fun pins s sg H Q I h => pts_nil.run pins s sg H Q I (by obtain ⟨F, q⟩ := h; exact q.rt)⟩
theorem dts_one {c : Expr} {u : ST} (h : DT X dl W c u) : PTs X [c] (tDT X dl W u) := pts_one h
theorem lcR {own : List (Str × Nat)} {it : SA} {is : List Nat} {f : SG} {u : ST} {h : SE} {sg : L2.St} {H : Hp} {Q : VK} (hv : ∀ i ∈ is, i ∈ own.map (·.2)) (q : tDO X dl W (gLc (own.map (·.2)) it f u h) sg H Q) :
    tLc (tIm X dl W it) (gD X dl is f) (tDT X dl WF u) (tD X dl WF h) (own.map (·.2)) sg H Q := by
  obtain ⟨F, F0, H0, G, s, w, S, g⟩ := q
  refine ⟨F, F0, H0, G, s, w, S, Go.imp (Go.at Step.refl g) fun ds s1 F1 H1 st1 w1 g1 J dlen wk Dd hD => ?_⟩
  have g2 := Go.noErr g1
  clear g1 g
  have S1 := S.step st1
  have hDH : H Dd = none := st1.al Dd hD
  have ndD : ¬ dl.has Dd := w1.na hD
  refine lc_it wk (fun i H' => ∃ (F' : Hp) (s' : DS) (acc : List D) (accv : List V), Wd dl F' H' s' ∧ Step dl F1 H1 F' H' ∧ F' Dd = none ∧ H' Dd = some (.lst accv) ∧ RepL X.K X.mg dl F' acc accv ∧ accv.length ≤ i ∧
      Go X.mg X.K dl (fun _ _ _ => False) F H (lcM f u h (wipeG G (own.map (·.2))) (ds.drop i) s') fun r _ F2 H2 => ∀ a, NewL X dl H (acc ++ r) F2 H2 a → Q (.ref a) H2) ?_ ?_ ?_ ?_
  · refine ⟨F1, s1, [], [], w1.newO hD, Step.newO hD, w1.fnone hD, upd_same, rfl, Nat.le_refl _, ?_⟩
    simpa using g2
  · rintro i H' hi ⟨F', s', acc, accv, w', st', _⟩ b o nb e
    exact st'.hs b o nb e
  · rintro i x H' H2 hi ⟨F', s', acc, accv, w', st', n', hd', ra, la, go⟩ y
    obtain ⟨F2, d, st2, w2, e2, r2⟩ := y F' s' st'.fs w'
    have hlt : i < ds.length := hi
    have ed : ds.drop i = d :: ds.drop (i + 1) := by
      rw [List.drop_eq_getElem_cons hlt]
      have : ds[i] = d := by
        rw [List.getElem?_eq_getElem hlt] at e2
        exact Option.some.inj e2
      rw [this]
    rw [ed] at go
    have st02 : Step dl F H F2 H2 := st1.trans (st'.trans st2)
    have go1 := Go.at (F1 := F2) (H1 := H2) st02 go
    obtain ⟨G', eG, go2⟩ := go1.ofO
    have go3 := go2 F2 H2 Step.refl w2
    clear go go1 go2
    have nD2 : F2 Dd = none := by
      cases q : F2 Dd with
      | none => rfl
      | some o =>
        rcases st2.nw Dd o q with z | z
        · rw [n'] at z; cases z
        · rw [hd'] at z; cases z
    have hD2 : H2 Dd = some (.lst accv) := st2.hs Dd _ ndD hd'
    refine ⟨F0, H0, F2, wipeG G (own.map (·.2)), s', d, G', w2, (S1.step (st'.trans st2)).wipe _, r2, eG, fun sg2 hw2 S2 => ⟨?_, ?_⟩⟩
    · have e := hw2 (own.map (·.2)) hv
      have id2 : L2.wipe (L2.wipe sg (own.map (·.2))) (own.map (·.2)) = L2.wipe sg (own.map (·.2)) := by
        apply List.ext_getElem?
        intro j
        by_cases hj : j ∈ own.map (·.2)
        · have wn : ∀ (tg : L2.St) (vs : List Nat), j ∈ vs → (L2.wipe tg vs)[j]? = if j < tg.length then some none else none := by
            intro tg vs
            induction vs with
            | nil => intro h; simp at h
            | cons v vs ih =>
              intro hm
              unfold L2.wipe
              by_cases hvj : v = j
              · subst hvj
                rw [List.getElem?_set, wipe_length]
                simp
              · rw [List.getElem?_set_ne hvj]
                exact ih (by
                  rcases List.mem_cons.mp hm with z | z
                  · exact absurd z.symm hvj
                  · exact z)
          rw [wn _ _ hj, wn _ _ hj, wipe_length]
        · rw [wipe_keep hj]
      rw [e, id2]
    · refine ⟨F2, F0, H0, G', s', w2, S2, Go.imp (Go.at st02 go3) fun k s3 F3 H3 st3 w3 go4 => ?_⟩
      have st03 := st02.trans st3
      have nD3 : F3 Dd = none := by
        cases q : F3 Dd with
        | none => rfl
        | some o =>
          rcases st3.nw Dd o q with z | z
          · rw [nD2] at z; cases z
          · rw [hD2] at z; cases z
      have hD3 : H3 Dd = some (.lst accv) := st3.hs Dd _ ndD hD2
      cases k with
      | false =>
        refine iteF ?_
        exact ⟨F3, s3, acc, accv, w3, st'.trans (st2.trans st3), nD3, hD3, RepL.mono (st2.trans st3).fs _ _ ra, Nat.le_succ_of_le la, go4⟩
      | true =>
        refine iteT ?_
        refine ⟨F3, F0, H0, G', s3, w3, S2.step st3, Go.imp (Go.at st03 go4) fun yv s4 F4 H4 st4 w4 go5 v rv => ?_⟩
        have nD4 : F4 Dd = none := by
          cases q : F4 Dd with
          | none => rfl
          | some o =>
            rcases st4.nw Dd o q with z | z
            · rw [nD3] at z; cases z
            · rw [hD3] at z; cases z
        have hD4 : H4 Dd = some (.lst accv) := st4.hs Dd _ ndD hD3
        refine ⟨accv, hD4, by omega, F4, s4, acc ++ [yv], accv ++ [v], ?_, ?_, nD4, upd_same, (RepL.mono ((st2.trans st3).trans st4).fs _ _ ra).append ⟨v, [], rfl, rv, rfl⟩, by simp; omega, ?_⟩
        · refine ⟨fun b o e => ?_, w4.off, ?_, w4.tb.upd (fun _ _ e => e) (fun q hq z => ndD (.inr (.inr (.inr ⟨q.2, by rw [← z]; exact hq⟩)))) (fun _ z => by cases z) (.inl fun _ _ z => by unfold LamX.CodeO at z; cases z)⟩
          · rw [upd_ne (ne_of_none e nD4)]; exact w4.sub b o e
          · obtain ⟨d1, d2, d3, d4⟩ := w4.dr
            exact ⟨by rw [upd_ne (fun z => ndD (by rw [← z]; exact .inl rfl))]; exact d1, by rw [upd_ne (fun z => ndD (by rw [← z]; exact .inr (.inl rfl)))]; exact d2, by rw [upd_ne (fun z => ndD (by rw [← z]; exact .inr (.inr (.inl rfl))))]; exact d3, d4⟩
        · have st14 : Step dl F1 H1 F4 H4 := st'.trans ((st2.trans st3).trans st4)
          exact ⟨st14.fs, fun b o nb e => by rw [upd_ne (ne_of_none e hD)]; exact st14.hs b o nb e, st14.nw, fun b e => by
            by_cases z : b = Dd
            · subst z; exact hD
            · rw [upd_ne z] at e; exact st14.al b e⟩
        · have go6 := Go.at (F1 := F) (H1 := H) Step.refl go5
          refine Go.imp go6 fun r s5 F5 H5 st5 w5 go7 => ?_
          have go8 := go7 F5 H5 st5 w5
          intro a na
          exact go8 a (by simpa using na)
  · rintro H' ⟨F', s', acc, accv, w', st', n', hd', ra, la, go⟩
    rw [List.drop_length] at go
    exact go F' H' (st1.trans st') w' Dd ⟨hDH, n', accv, hd', by
      omega, by simpa using ra⟩
theorem deo_lc {elt tg iter : Expr} {ifs : List Expr} {scope : Scope} {own : List (Str × Nat)} {it : SA} {is : List Nat} {f : SG} {u : ST} {h : SE} (hc : X.calm = true) (hN : X.N.Nodup) (hi : DIm X dl W tg iter it) (ok : BlkOk X.N X.env.scope scope own) (hv : ∀ i ∈ is, i ∈ own.map (·.2))
    (hg : ∀ (s : Shared) (H : Hp) (C : Addr) (cl : List (Str × Addr)) (fp : List Addr), DG (X.blk s H scope (compEnvC scope cl C X.env) fp) dl tg is f)
    (ht : ∀ (s : Shared) (H : Hp) (C : Addr) (cl : List (Str × Addr)) (fp : List Addr), PTs (X.blk s H scope (compEnvC scope cl C X.env) fp) ifs (tDT (X.blk s H scope (compEnvC scope cl C X.env) fp) dl WF u))
    (he : ∀ (s : Shared) (H : Hp) (C : Addr) (cl : List (Str × Addr)) (fp : List Addr), DE (X.blk s H scope (compEnvC scope cl C X.env) fp) dl WF elt h) (hs : ∀ x, foldedSetIterable iter X.env x = pure x := by intro _; rfl) :
    DEO X dl W (.ListComp elt [{ target := tg, iter := iter, ifs := ifs, is_async := 0 }] scope pos) (gLc (own.map (·.2)) it f u h) :=
  PE.of (pe_lc (tt := tDT X dl WF u) (te := tD X dl WF h) (g := gD X dl is f) hc hN hi ok hg ht he hs) fun sg H Q q => lcR hv q
end
end EK


namespace EK
open PySem PySem.Spec PyProof.Rows L2
inductive Out where
  | next (G : Sls) | ret (d : D) | brk (G : Sls) | cont (G : Sls)
abbrev SS := Sls → M Out
section
variable (X : Cx) (dl : Dr) (W : WX)
def GoS (F0 H0 F : Hp) (r : Option (Res Out × DS)) (E : Ends) : Prop := match r with
  | none => False
  | some (.ok (.next G), s') => ∀ F' H' sg', Same F F' → Wd dl F' H' s' → Sim X.K X.mg dl F0 H0 F' H' sg' G → E.nx sg' H'
  | some (.ok (.brk G), s') => ∀ F' H' sg', Same F F' → Wd dl F' H' s' → Sim X.K X.mg dl F0 H0 F' H' sg' G → E.bk sg' H'
  | some (.ok (.cont G), s') => ∀ F' H' sg', Same F F' → Wd dl F' H' s' → Sim X.K X.mg dl F0 H0 F' H' sg' G → E.ct sg' H'
  | some (.ok (.ret d), s') => ∀ F' H' v, Step dl F0 H0 F' H' → Wd dl F' H' s' → Rep X.K X.mg dl F' d v → E.rt v H'
  | some (.err x, s') => ∀ F' H' sg' cls d, Step dl F0 H0 F' H' → Wd dl F' H' s' → ExRep X.mg X.K dl F' H' x cls d → W cls d sg' H'
def tS (f : SS) : TS := fun E sg H => ∃ (F0 H0 F : Hp) (G : Sls) (s : DS), Wd dl F H s ∧ Sim X.K X.mg dl F0 H0 F H sg G ∧ GoS X dl W F0 H0 F (f G s) E
abbrev DSt (st : Stmt) (f : SS) : Prop := PS X st (tS X dl W f)
abbrev DSs (st : List Stmt) (f : SS) : Prop := PSs X st (tS X dl W f)
end
section
variable {X : Cx} {dl : Dr} {W : WX} {pos : Pos} {F0 H0 F H : Hp} {E : Ends}
theorem GoS.mono {F1 : Hp} {r : Option (Res Out × DS)} (h : GoS X dl W F0 H0 F r E) (sm : Same F F1) : GoS X dl W F0 H0 F1 r E := by
  cases r with
  | none => exact h
  | some p =>
    obtain ⟨r, s1⟩ := p
    cases r with
    | err x => exact h
    | ok o =>
      cases o with
      | next G => exact fun F' H' sg' m => h F' H' sg' fun b o e => m b o (sm b o e)
      | brk G => exact fun F' H' sg' m => h F' H' sg' fun b o e => m b o (sm b o e)
      | cont G => exact fun F' H' sg' m => h F' H' sg' fun b o e => m b o (sm b o e)
      | ret d => exact h
/-- an expression (or a test) first -/
theorem GoS.ex {α : Type} {m : M α} {k : α → M Out} {s : DS} {sg : L2.St} (st : Step dl F0 H0 F H) (h : GoS X dl W F0 H0 F (bnd m k s) E) :
    Go X.mg X.K dl (fun c d H' => W c d sg H') F H (m s) fun a s1 _ _ => GoS X dl W F0 H0 F (k a s1) E := by
  unfold bnd at h
  cases e : m s with
  | none => rw [e] at h; exact h
  | some p =>
    obtain ⟨r, s1⟩ := p
    rw [e] at h
    cases r with
    | err x => exact fun F' H' cls d st' w' xr => h F' H' sg cls d (st.trans st') w' xr
    | ok a => exact fun F' H' st' w' => h
theorem GoS.ofO {α : Type} {o : Option α} {k : α → M Out} {s : DS} (h : GoS X dl W F0 H0 F (bnd (EK.ofO o) k s) E) : ∃ a, o = some a ∧ GoS X dl W F0 H0 F (k a s) E := by
  cases o with
  | none => exact h.elim
  | some a => exact ⟨a, rfl, h⟩
/-- a statement first -/
theorem GoS.st {m : M Out} {k : Out → M Out} {s : DS} {E' : Ends} (h : GoS X dl W F0 H0 F (bnd m k s) E)
    (hn : ∀ G s1, GoS X dl W F0 H0 F (k (.next G) s1) E → ∀ F' H' sg', Same F F' → Wd dl F' H' s1 → Sim X.K X.mg dl F0 H0 F' H' sg' G → E'.nx sg' H')
    (hb : ∀ G s1, GoS X dl W F0 H0 F (k (.brk G) s1) E → ∀ F' H' sg', Same F F' → Wd dl F' H' s1 → Sim X.K X.mg dl F0 H0 F' H' sg' G → E'.bk sg' H')
    (hc : ∀ G s1, GoS X dl W F0 H0 F (k (.cont G) s1) E → ∀ F' H' sg', Same F F' → Wd dl F' H' s1 → Sim X.K X.mg dl F0 H0 F' H' sg' G → E'.ct sg' H')
    (hr : ∀ d s1, GoS X dl W F0 H0 F (k (.ret d) s1) E → ∀ F' H' v, Step dl F0 H0 F' H' → Wd dl F' H' s1 → Rep X.K X.mg dl F' d v → E'.rt v H') : GoS X dl W F0 H0 F (m s) E' := by
  unfold bnd at h
  cases e : m s with
  | none => rw [e] at h; exact h
  | some p =>
    obtain ⟨r, s1⟩ := p
    rw [e] at h
    cases r with
    | err x => exact h
    | ok o =>
      cases o with
      | next G => exact hn G s1 h
      | brk G => exact hb G s1 h
      | cont G => exact hc G s1 h
      | ret d => exact hr d s1 h
def sNil : SS := fun G => ret (.next G)
def sSeq (f g : SS) : SS := fun G => bnd (f G) fun o => match o with
  | .next G' => g G'
  | o => ret o
theorem dss_nil : DSs X dl W [] sNil := by
  refine PSs.of pss_nil fun E sg H q => ?_
  obtain ⟨F0, H0, F, G, s, w, S, g⟩ := q
  exact g F H sg (fun _ _ h => h) w S
theorem dss_cons {st : Stmt} {rest : List Stmt} {f g : SS} (h1 : DSt X dl W st f) (h2 : DSs X dl W rest g) : DSs X dl W (st :: rest) (sSeq f g) := by
  refine PSs.of (pss_cons h1 h2) fun E sg H q => ?_
  obtain ⟨F0, H0, F, G, s, w, S, go⟩ := q
  refine ⟨F0, H0, F, G, s, w, S, go.st (fun G1 s1 g1 F' H' sg' sm w' S' => ?_) (fun G1 s1 g1 => g1) (fun G1 s1 g1 => g1) (fun d s1 g1 => g1)⟩
  exact ⟨F0, H0, F', G1, s1, w', S', g1.mono sm⟩
theorem dss_one {st : Stmt} {f : SS} (h1 : DSt X dl W st f) : DSs X dl W [st] f := pss_one h1
/-- what is raised or never reached: no way goes there -/
def sNever : SS := fun _ => fail
variable {e : Expr} {f : SE}
def sExpr (f : SE) : SS := fun G => bnd (f G) fun _ => ret (.next G)
def sRet (f : SE) : SS := fun G => bnd (f G) fun d => ret (.ret d)
theorem ds_expr (he : DE X dl W e f) (hs : swapsWith e none pos.line X.env = pure false := by rfl) : DSt X dl W (.Expr e pos) (sExpr f) := by
  refine PS.of (ps_expr he hs) fun E sg H q => ?_
  obtain ⟨F0, H0, F, G, s, w, S, g⟩ := q
  exact ⟨F, F0, H0, G, s, w, S, (g.ex S.st).imp fun d s1 F1 H1 st1 w1 g1 v _ => g1 F1 H1 sg st1.fs w1 (S.step st1)⟩
theorem ds_ret (he : DE X dl W e f) : DSt X dl W (.Return (some e) pos) (sRet f) := by
  refine PS.of (ps_ret he) fun E sg H q => ?_
  obtain ⟨F0, H0, F, G, s, w, S, g⟩ := q
  exact ⟨F, F0, H0, G, s, w, S, (g.ex S.st).imp fun d s1 F1 H1 st1 w1 g1 v r => g1 F1 H1 v (S.st.trans st1) w1 r⟩
def sAsg (f : SE) (a : SG) : SS := fun G => bnd (f G) fun d => bnd (ofO (a G d)) fun G' => ret (.next G')
theorem ds_asg {tg : Expr} {is : List Nat} {a : SG} (he : DE X dl W e f) (hg : DG X dl tg is a) (hs : swapsWithSole [tg] e pos.line X.env = pure false := by rfl) (hw : swappedStores [tg] e X.env = pure none := by rfl)
    (h1 : (assignEach [tg] X.env).map (·.2) = [assign tg X.env] := by rfl) : DSt X dl W (.Assign [tg] e pos) (sAsg f a) := by
  refine PS.of (ps_asg he hg hs hw h1) fun E sg H q => ?_
  obtain ⟨F0, H0, F, G, s, w, S, g⟩ := q
  refine ⟨F, F0, H0, G, s, w, S, (g.ex S.st).imp fun d s1 F1 H1 st1 w1 g1 v r => ?_⟩
  obtain ⟨G', e1, g2⟩ := g1.ofO
  exact ⟨F0, H0, F1, G, s1, d, G', w1, S.step st1, r, e1, fun sg' _ S' => g2 F1 H1 sg' st1.fs w1 S'⟩
theorem set_rd {i : Nat} {sg : L2.St} {H : Hp} (q : tS X dl W (sAsg f (sgN i)) E sg H) : tD X dl W f sg H fun x H1 => gName i x sg H1 E.nx := by
  obtain ⟨F0, H0, F, G, s, w, S, g⟩ := q
  refine ⟨F, F0, H0, G, s, w, S, (g.ex S.st).imp fun d s1 F1 H1 st1 w1 g1 v r => ?_⟩
  exact g1 F1 H1 _ st1.fs w1 ((S.step st1).put r)
theorem ds_set (i : Nat) {x : Str} {pos' : Pos} (hN : X.N.Nodup) (he : DE X dl W e f) (hi : X.N[i]? = some x := by rfl) (hx : Loc X.env.scope x := by first | exact Or.inl rfl | exact Or.inr rfl) (hs : swapsWith e (some (.Name x pos')) pos.line X.env = pure false := by rfl) (hf : X.fn x = true ∨ X.env.scope.names.lookup x = some .local := by first | exact .inl rfl | exact .inr rfl | assumption) :
    DSt X dl W (.Assign [.Name x pos'] e pos) (sAsg f (sgN i)) :=
  PS.of (ps_set hN hi hx he hs hf) fun E sg H q => set_rd q
def sIf (u : ST) (f g : SS) : SS := fun G => bnd (u G) fun k => if k then f G else g G
theorem ds_if {c : Expr} {a b : List Stmt} {u : ST} {f g : SS} (hc : DT X dl W c u) (ha : DSs X dl W a f) (hb : DSs X dl W b g) : DSt X dl W (.If c a b pos) (sIf u f g) := by
  refine PS.of (ps_if hc ha hb) fun E sg H q => ?_
  obtain ⟨F0, H0, F, G, s, w, S, g⟩ := q
  refine ⟨F, F0, H0, G, s, w, S, (g.ex S.st).imp fun k s1 F1 H1 st1 w1 g1 => ?_⟩
  cases k with
  | true => exact iteT ⟨F0, H0, F1, G, s1, w1, S.step st1, g1.mono st1.fs⟩
  | false => exact iteF ⟨F0, H0, F1, G, s1, w1, S.step st1, g1.mono st1.fs⟩
/-- the own list of slot i is known to others from here on -/
def frz (i : Nat) (G : Sls) : Sls := match G[i]? with
  | some (some (.own ds)) => G.set i (some (.fz (.lst ds)))
  | _ => G
theorem Sim.frz {sg : L2.St} {G : Sls} {s : DS} (i : Nat) (w : Wd dl F H s) (S : Sim X.K X.mg dl F0 H0 F H sg G) : ∃ F', Wd dl F' H s ∧ Sim X.K X.mg dl F0 H0 F' H sg (EK.frz i G) ∧ Same F F' := by
  cases e1 : G[i]? with
  | none => exact ⟨F, w, by simpa only [EK.frz, e1] using S, fun _ _ h => h⟩
  | some o =>
    cases o with
    | none => exact ⟨F, w, by simpa only [EK.frz, e1] using S, fun _ _ h => h⟩
    | some sl =>
      cases sl with
      | fz _ => exact ⟨F, w, by simpa only [EK.frz, e1] using S, fun _ _ h => h⟩
      | ini _ _ _ => exact ⟨F, w, by simpa only [EK.frz, e1] using S, fun _ _ h => h⟩
      | ownX _ _ => exact ⟨F, w, by simpa only [EK.frz, e1] using S, fun _ _ h => h⟩
      | tree _ => exact ⟨F, w, by simpa only [EK.frz, e1] using S, fun _ _ h => h⟩
      | own ds =>
        obtain ⟨v, h1, a, vs, rfl, h3, h4, h5, h6, h7, h8⟩ := S.sl i _ e1
        have sm : Same F (upd F a (.lst vs)) := Same.updN h4
        refine ⟨upd F a (.lst vs), w.freeze h3 h4 h6, ?_, sm⟩
        simp only [EK.frz, e1]
        have other : ∀ (j : Nat) (t : Sl), i ≠ j → G[j]? = some (some t) → ∃ u, sg[j]? = some (some u) ∧ SlOk X.K X.mg dl H0 (upd F a (.lst vs)) H t u := fun j t hij ej => by
          obtain ⟨u, k1, k2⟩ := S.sl j t ej
          refine ⟨u, k1, ?_⟩
          have nea : ∀ b, t.isOwn = true → (u = .ref b → b ≠ a) := fun b ho eu z => by
            subst z; subst eu
            exact hij (S.dis i j _ t e1 ej rfl ho (h1.trans k1.symm))
          cases t with
          | fz d => exact Rep.mono sm d u k2
          | own es =>
            obtain ⟨b, us, rfl, m2, m3, m4, m5, m6, m7⟩ := k2
            exact ⟨b, us, rfl, m2, by rw [upd_ne (nea b rfl rfl)]; exact m3, m4, m5, m6, RepL.mono sm _ _ m7⟩
          | ini c ns es =>
            obtain ⟨b, dx, C, us, rfl, m2, m3, m4, m5, m6, m7, m8, m9, m10, m11, m12, m13⟩ := k2
            refine ⟨b, dx, C, us, rfl, m2, m3, m4, by rw [upd_ne (nea b rfl rfl)]; exact m5, ?_, m7, m8, m9, m10, m11, m12, RepL.mono sm _ _ m13⟩
            rw [upd_ne (fun z => by rw [z, h3] at m4; cases m4)]; exact m6
          | ownX kk es =>
            obtain ⟨b, us, rfl, m2, m3, m4, m5, m6, m7, m8⟩ := k2
            exact ⟨b, us, rfl, m2, by rw [upd_ne (nea b rfl rfl)]; exact m3, m4, m5, m6, m7, RepL.mono sm _ _ m8⟩
          | tree _ => trivial
        have hil : i < G.length := by
          by_cases q : i < G.length
          · exact q
          · rw [List.getElem?_eq_none (by omega)] at e1; cases e1
        refine ⟨by rw [List.length_set]; exact S.len, fun j t ej => ?_, fun j k t u ej ek o1 o2 e3 => ?_, ⟨fun b o e => sm b o (S.st.fs b o e), S.st.hs, fun b o e => ?_, S.st.al⟩, S.tr.at e1 rfl (fun _ z => nomatch z) h1 sm (fun _ _ => rfl) (fun b hb => upd_ne hb)⟩
        · by_cases hij : i = j
          · subst hij
            rw [List.getElem?_set_self hil] at ej
            cases ej
            exact ⟨.ref a, h1, a, vs, rfl, upd_same, h7, RepL.mono sm _ _ h8⟩
          · rw [List.getElem?_set_ne hij] at ej
            exact other j t hij ej
        · have nz : ∀ m (t : Sl), (G.set i (some (.fz (.lst ds))))[m]? = some (some t) → t.isOwn = true → i ≠ m := fun m t e o z => by
            subst z
            rw [List.getElem?_set_self hil] at e; cases e; cases o
          have z1 := nz j t ej o1
          have z2 := nz k u ek o2
          rw [List.getElem?_set_ne z1] at ej
          rw [List.getElem?_set_ne z2] at ek
          exact S.dis j k t u ej ek o1 o2 e3
        · by_cases z : b = a
          · subst z; exact .inr h5
          · rw [upd_ne z] at e; exact S.st.nw b o e
def sFrz (i : Nat) (f : SS) : SS := fun G => f (frz i G)
theorem dss_frz (i : Nat) {st : List Stmt} {f : SS} (h : DSs X dl W st f) : DSs X dl W st (sFrz i f) := by
  refine PSs.of h fun E sg H q => ?_
  obtain ⟨F0, H0, F, G, s, w, S, g⟩ := q
  obtain ⟨F', w', S', sm⟩ := S.frz i w
  exact ⟨F0, H0, F', frz i G, s, w', S', g.mono sm⟩
/-- x = a new list, which stays the def's own -/
def sOwn (i : Nat) (f : SA) : SS := fun G => bnd (f G) fun ds => ret (.next (G.set i (some (.own ds))))
theorem Sim.putOwn {sg : L2.St} {G : Sls} {i : Nat} {a : Addr} {ds : List D} {vs : List V} (S : Sim X.K X.mg dl F0 H0 F H sg G) (hn : ∀ (j : Nat) (t : Sl), i ≠ j → G[j]? = some (some t) → t.isOwn = true → sg[j]? ≠ some (some (.ref a))) (hT : ∀ fp, TrOk X.K X.mg dl H0 F H sg G fp → ∀ (j : Nat) (t : T), G[j]? = some (some (.tree t)) → a ∉ fp j)
    (h3 : H a = some (.lst vs)) (h4 : F a = none) (h5 : H0 a = none) (h6 : ¬ dl.has a) (h7 : vs.length ≤ sizeLine) (h8 : RepL X.K X.mg dl F ds vs) : Sim X.K X.mg dl F0 H0 F H (sg.set i (some (.ref a))) (G.set i (some (.own ds))) := by
  have gi : ∀ {t : Sl}, (G.set i (some (.own ds)))[i]? = some (some t) → i < G.length ∧ t = .own ds := fun {t} e => by
    by_cases q : i < G.length
    · rw [List.getElem?_set_self q] at e; cases e; exact ⟨q, rfl⟩
    · rw [List.getElem?_set] at e; simp [q] at e
  refine ⟨by rw [List.length_set, List.length_set]; exact S.len, fun j t ej => ?_, fun j k t u ej ek o1 o2 e3 => ?_, S.st, S.tr.put (fun _ z => nomatch z) (fun _ b hb => by cases hb; exact hT)⟩
  · by_cases hij : i = j
    · subst hij
      obtain ⟨q, rfl⟩ := gi ej
      exact ⟨.ref a, List.getElem?_set_self (by rw [← S.len]; exact q), a, vs, rfl, h3, h4, h5, h6, h7, h8⟩
    · rw [List.getElem?_set_ne hij] at ej
      rw [List.getElem?_set_ne hij]
      exact S.sl j t ej
  · by_cases hij : i = j
    · subst hij
      by_cases hik : i = k
      · exact hik
      · obtain ⟨q, _⟩ := gi ej
        rw [List.getElem?_set_ne hik] at ek e3
        rw [List.getElem?_set_self (by rw [← S.len]; exact q)] at e3
        exact absurd e3.symm (hn k u hik ek o2)
    · rw [List.getElem?_set_ne hij] at ej e3
      by_cases hik : i = k
      · subst hik
        obtain ⟨q, _⟩ := gi ek
        rw [List.getElem?_set_self (by rw [← S.len]; exact q)] at e3
        exact absurd e3 (hn j t hij ej o1)
      · rw [List.getElem?_set_ne hik] at ek e3
        exact S.dis j k t u ej ek o1 o2 e3
theorem Sim.putX {sg : L2.St} {G : Sls} {i : Nat} {a : Addr} {k : OK} {ds : List D} {vs : List V} (S : Sim X.K X.mg dl F0 H0 F H sg G) (hn : ∀ (j : Nat) (t : Sl), i ≠ j → G[j]? = some (some t) → t.isOwn = true → sg[j]? ≠ some (some (.ref a))) (hT : ∀ fp, TrOk X.K X.mg dl H0 F H sg G fp → ∀ (j : Nat) (t : T), G[j]? = some (some (.tree t)) → a ∉ fp j)
    (h3 : H a = some (k.ho vs)) (h4 : F a = none) (h5 : H0 a = none) (h6 : ¬ dl.has a) (h7 : k.len = vs.length) (h9 : k.len ≤ 1000 ∧ k.nd) (h8 : RepL X.K X.mg dl F ds vs) : Sim X.K X.mg dl F0 H0 F H (sg.set i (some (.ref a))) (G.set i (some (.ownX k ds))) := by
  have gi : ∀ {t : Sl}, (G.set i (some (.ownX k ds)))[i]? = some (some t) → i < G.length ∧ t = .ownX k ds := fun {t} e => by
    by_cases q : i < G.length
    · rw [List.getElem?_set_self q] at e; cases e; exact ⟨q, rfl⟩
    · rw [List.getElem?_set] at e; simp [q] at e
  refine ⟨by rw [List.length_set, List.length_set]; exact S.len, fun j t ej => ?_, fun j m t u ej ek o1 o2 e3 => ?_, S.st, S.tr.put (fun _ z => nomatch z) (fun _ b hb => by cases hb; exact hT)⟩
  · by_cases hij : i = j
    · subst hij
      obtain ⟨q, rfl⟩ := gi ej
      exact ⟨.ref a, List.getElem?_set_self (by rw [← S.len]; exact q), a, vs, rfl, h3, h4, h5, h6, h7, h9, h8⟩
    · rw [List.getElem?_set_ne hij] at ej
      rw [List.getElem?_set_ne hij]
      exact S.sl j t ej
  · by_cases hij : i = j
    · subst hij
      by_cases hik : i = m
      · exact hik
      · obtain ⟨q, _⟩ := gi ej
        rw [List.getElem?_set_ne hik] at ek e3
        rw [List.getElem?_set_self (by rw [← S.len]; exact q)] at e3
        exact absurd e3.symm (hn m u hik ek o2)
    · rw [List.getElem?_set_ne hij] at ej e3
      by_cases hik : i = m
      · subst hik
        obtain ⟨q, _⟩ := gi ek
        rw [List.getElem?_set_self (by rw [← S.len]; exact q)] at e3
        exact absurd e3 (hn j t hij ej o1)
      · rw [List.getElem?_set_ne hik] at ek e3
        exact S.dis j m t u ej ek o1 o2 e3
theorem Sim.notAt {sg : L2.St} {G : Sls} {a : Addr} {F1 H1 : Hp} (S : Sim X.K X.mg dl F0 H0 F H sg G) (h : H a = none) : ∀ (j : Nat) (t : Sl), G[j]? = some (some t) → t.isOwn = true → sg[j]? ≠ some (some (.ref a)) := fun j t ej o z => by
  obtain ⟨u, k1, k2⟩ := S.sl j t ej
  rw [z] at k1
  cases k1
  cases t with
  | fz _ => cases o
  | own es =>
    obtain ⟨b, us, e, m2, _⟩ := k2
    cases e
    rw [h] at m2; cases m2
  | ini c ns es =>
    obtain ⟨b, dx, C, us, e, m2, m3, _⟩ := k2
    cases e
    rw [h] at m3; cases m3
  | ownX kk es =>
    obtain ⟨b, us, e, m2, _⟩ := k2
    cases e
    rw [h] at m2; cases m2
  | tree _ => cases o
/-- what is new lies in no tree -/
theorem Sim.notTr {sg : L2.St} {G : Sls} {a : Addr} {F1 H1 : Hp} (S : Sim X.K X.mg dl F0 H0 F H sg G) (st : Step dl F H F1 H1) (h : H a = none) : ∀ fp, TrOk X.K X.mg dl H0 F1 H1 sg G fp → ∀ (j : Nat) (t : T), G[j]? = some (some (.tree t)) → a ∉ fp j := fun fp T j t ej z => by
  obtain ⟨fp0, T0⟩ := S.tr
  obtain ⟨v, q1, q2, q3, q4⟩ := T0.at_ j t ej
  obtain ⟨u, r1, r2, r3, r4⟩ := T.at_ j t ej
  rw [q1] at r1
  cases r1
  have so := TR.some t v _ q2
  have q5 := TR.mono st.fs t v _ (fun b hb => by
    obtain ⟨o, ho⟩ := so b hb
    rw [ho]
    exact st.hs b o (q4 b hb).2.2 ho) q2
  rw [← TR.det t v _ _ q5 r2] at z
  obtain ⟨o, ho⟩ := so a z
  rw [h] at ho
  cases ho
theorem own_rd {i : Nat} {fa : SA} {sg : L2.St} {H : Hp} (q : tS X dl W (sOwn i fa) E sg H) : tDO X dl W fa sg H fun x H1 => gName i x sg H1 E.nx := by
  obtain ⟨F0, H0, F, G, s, w, S, g⟩ := q
  refine ⟨F, F0, H0, G, s, w, S, (g.ex S.st).imp fun ds s1 F1 H1 st1 w1 g1 a na => ?_⟩
  obtain ⟨n1, n2, vs, h1, h2, h3⟩ := na
  refine g1 F1 H1 _ st1.fs w1 ((S.step st1).putOwn (fun j t _ ej o => S.notAt (F1 := F1) (H1 := H1) n1 j t ej o) (S.notTr st1 n1) h1 n2 (S.st.al a n1) (w.na n1) h2 h3)
theorem ds_own (i : Nat) {x : Str} {pos' : Pos} {fa : SA} (hN : X.N.Nodup) (he : DEO X dl W e fa) (hi : X.N[i]? = some x := by rfl) (hx : Loc X.env.scope x := by first | exact Or.inl rfl | exact Or.inr rfl) (hs : swapsWith e (some (.Name x pos')) pos.line X.env = pure false := by rfl) (hf : X.fn x = true ∨ X.env.scope.names.lookup x = some .local := by first | exact .inl rfl | exact .inr rfl | assumption) :
    DSt X dl W (.Assign [.Name x pos'] e pos) (sOwn i fa) :=
  PS.of (ps_set hN hi hx he hs hf) fun E sg H q => own_rd q
/-- x.append(e) -/
def sApp (i : Nat) (f : SE) : SS := fun G => match G[i]? with
  | some (some (.own ds)) => bnd (f G) fun d => if ds.length < sizeLine then ret (.next (G.set i (some (.own (ds ++ [d]))))) else fail
  | _ => fail
end
end EK


namespace EK
open PySem PySem.Spec PyProof.Rows L2
section
variable {X : Cx} {dl : Dr} {W : WX} {pos : Pos} {F0 H0 F H : Hp} {E : Ends} {e : Expr} {f : SE}
theorem Wd.setO {s : DS} {a : Addr} {o : HO} (w : Wd dl F H s) (n : F a = none) (nd : ¬ dl.has a) (ho : NotTbl o := by intro _ z; cases z) (hc : NotCode o := by intro _ _ z; unfold LamX.CodeO at z; cases z) : Wd dl F (upd H a o) s := by
  refine ⟨fun b u e => ?_, w.off, ?_, w.tb.upd (fun _ _ e => e) (fun q hq z => nd (.inr (.inr (.inr ⟨q.2, by rw [← z]; exact hq⟩)))) ho (.inl hc)⟩
  · rw [upd_ne (ne_of_none e n)]; exact w.sub b u e
  · obtain ⟨d1, d2, d3, d4⟩ := w.dr
    exact ⟨by rw [upd_ne (fun z => nd (by rw [← z]; exact .inl rfl))]; exact d1, by rw [upd_ne (fun z => nd (by rw [← z]; exact .inr (.inl rfl)))]; exact d2, by rw [upd_ne (fun z => nd (by rw [← z]; exact .inr (.inr (.inl rfl))))]; exact d3, d4⟩
theorem get_lt {α : Type} {l : List α} {i : Nat} {x : α} (h : l[i]? = some x) : i < l.length := (List.getElem?_eq_some_iff.mp h).1
/-- an own list changes -/
theorem Sim.setOwn {sg : L2.St} {G : Sls} {i : Nat} {a : Addr} {ds ds' : List D} {vs' : List V} (S : Sim X.K X.mg dl F0 H0 F H sg G) (ei : G[i]? = some (some (.own ds))) (es : sg[i]? = some (some (.ref a)))
    (h7 : vs'.length ≤ sizeLine) (h8 : RepL X.K X.mg dl F ds' vs') : Sim X.K X.mg dl F0 H0 F (upd H a (.lst vs')) sg (G.set i (some (.own ds'))) := by
  have hil := get_lt ei
  obtain ⟨v, k1, b, us, rfl, m2, m3, m4, m5, m6, m7⟩ := S.sl i _ ei
  rw [es] at k1
  cases k1
  refine ⟨by rw [List.length_set]; exact S.len, fun j t ej => ?_, fun j k t u ej ek o1 o2 e3 => ?_, ⟨S.st.fs, fun c o nc e => ?_, S.st.nw, fun c e => ?_⟩, S.tr.at ei rfl (fun _ z => nomatch z) es (fun _ _ z => z) (fun b hb => upd_ne hb) (fun _ _ => rfl)⟩
  · by_cases hij : i = j
    · subst hij
      rw [List.getElem?_set_self hil] at ej
      cases ej
      exact ⟨.ref a, es, a, vs', rfl, upd_same, m3, m4, m5, h7, h8⟩
    · rw [List.getElem?_set_ne hij] at ej
      obtain ⟨u, k1, k2⟩ := S.sl j t ej
      refine ⟨u, k1, ?_⟩
      have nea : ∀ c, t.isOwn = true → u = .ref c → c ≠ a := fun c ho eu z => by
        subst z; subst eu
        exact hij (S.dis i j _ t ei ej rfl ho (es.trans k1.symm))
      cases t with
      | fz d => exact k2
      | own es' =>
        obtain ⟨c, ws, rfl, q2, q3, q4, q5, q6, q7⟩ := k2
        exact ⟨c, ws, rfl, by rw [upd_ne (nea c rfl rfl)]; exact q2, q3, q4, q5, q6, q7⟩
      | ini cc ns es' =>
        obtain ⟨c, dx, C, ws, rfl, q2, q3, q4, q5, q6, q7, q8, q9, q10, q11, q12, q13⟩ := k2
        exact ⟨c, dx, C, ws, rfl, q2, by rw [upd_ne (nea c rfl rfl)]; exact q3, by rw [upd_ne (fun z => by rw [z, m2] at q4; cases q4)]; exact q4, q5, q6, q7, q8, q9, q10, q11, q12, q13⟩
      | ownX kk es' =>
        obtain ⟨c, ws, rfl, q2, q3, q4, q5, q6, q7, q8⟩ := k2
        exact ⟨c, ws, rfl, by rw [upd_ne (nea c rfl rfl)]; exact q2, q3, q4, q5, q6, q7, q8⟩
      | tree _ => trivial
  · have nz : ∀ m (t : Sl), (G.set i (some (.own ds')))[m]? = some (some t) → t.isOwn = true → ∃ t' : Sl, G[m]? = some (some t') ∧ t'.isOwn = true := fun m t e o => by
      by_cases z : i = m
      · subst z
        exact ⟨_, ei, rfl⟩
      · rw [List.getElem?_set_ne z] at e
        exact ⟨t, e, o⟩
    obtain ⟨t', a1, a2⟩ := nz j t ej o1
    obtain ⟨u', b1, b2⟩ := nz k u ek o2
    exact S.dis j k t' u' a1 b1 a2 b2 e3
  · rw [upd_ne (ne_of_none e m4)]; exact S.st.hs c o nc e
  · by_cases z : c = a
    · subst z; exact m4
    · rw [upd_ne z] at e; exact S.st.al c e
theorem ds_append (i : Nat) {x : Str} {p ap cp : Pos} (he : DE X dl W e f) (hN : X.N[i]? = some x := by rfl) (hv : Vis X.env.scope x := by first | exact Or.inl rfl | exact Or.inr (Or.inl rfl) | exact Or.inr (Or.inr rfl))
    (hd : (x == ("__debug__" : Str)) = false := by decide) (hcd : (x == ("__classdict__" : Str)) = false := by decide)
    (hbase : attributeBase (.Name x p) "append" X.env (eval (.Name x p) X.env) = eval (.Name x p) X.env := by rfl)
    (hfew : ((backTo cp (starEach [e] X.env)).all (fun x => !x.1) && (backToKw cp (keywordEach [] X.env)).all (fun x => x.1.isSome)
      && decide (([e] : List Expr).length + ([] : List Keyword).length + (if ([] : List Keyword).isEmpty then 0 else 1) < 30)) = true := by rfl)
    (hline : (ap.endLine == cp.line) = true := by rfl) (hse : starEach [e] X.env = (false, eval e X.env) :: starEach [] X.env := by rfl)
    (hs : swapsWith (.Call (.Attribute (.Name x p) "append" ap) [e] [] cp) none pos.line X.env = pure false := by rfl) :
    DSt X dl W (.Expr (.Call (.Attribute (.Name x p) "append" ap) [e] [] cp) pos) (sApp i f) := by
  have ha : DA X dl W [e] (saC f sa0) := da_cons he da_nil hse
  refine PS.of (ps_expr (pe_bm PySem.F.plainAttrs_list PySem.F.slot_list_append PySem.F.type_list_append mt_append (pe_var hN hv hd hcd) (pa_cons he pa_nil hse) hbase hfew hline hse rfl) hs) fun E sg H q => ?_
  obtain ⟨F0, H0, F, G, s, w, S, g⟩ := q
  cases ei : G[i]? with
  | none => simp only [sApp, ei] at g; exact g.elim
  | some o =>
    cases o with
    | none => simp only [sApp, ei] at g; exact g.elim
    | some sl =>
      cases sl with
      | fz _ => simp only [sApp, ei] at g; exact g.elim
      | ini _ _ _ => simp only [sApp, ei] at g; exact g.elim
      | ownX _ _ => simp only [sApp, ei] at g; exact g.elim
      | tree _ => simp only [sApp, ei] at g; exact g.elim
      | own ds =>
        simp only [sApp, ei] at g
        obtain ⟨v, k1, a, vs, rfl, m2, m3, m4, m5, m6, m7⟩ := S.sl i _ ei
        refine ⟨.ref a, k1, .inl ⟨rfl, _, SqL.of m2⟩, F, F0, H0, G, s, w, S, (g.ex (sg := sg) S.st).imp fun d s1 F1 H1 st1 w1 g1 v rv => ?_⟩
        have S1 := S.step st1
        obtain ⟨v', k1', b, us, eb, n2, n3, n4, n5, n6, n7⟩ := S1.sl i _ ei
        rw [k1] at k1'
        cases k1'
        cases eb
        by_cases hl : ds.length < sizeLine
        · rw [if_pos hl] at g1
          rw [n7.length] at hl
          refine ⟨a, us, v, rfl, rfl, n2, hl, ?_⟩
          exact g1 F1 _ sg st1.fs (w1.setO n3 n5) (S1.setOwn ei k1 (by simp; omega) (n7.append ⟨v, [], rfl, rv, rfl⟩))
        · rw [if_neg hl] at g1
          exact g1.elim
def forM (a : SG) (b : SS) : List D → Sls → M Out
  | [], G => ret (.next G)
  | d :: ds, G => bnd (ofO (a G d)) fun G' => bnd (b G') fun o => match o with
    | .next G2 => forM a b ds G2
    | .cont G2 => forM a b ds G2
    | .brk G2 => ret (.next G2)
    | .ret d => ret (.ret d)
def sFor (it : SA) (a : SG) (b : SS) : SS := fun G => bnd (it G) fun ds => forM a b ds G
theorem ds_for {tg iter : Expr} {body : List Stmt} {it : SA} {is : List Nat} {a : SG} {b : SS} (hp : PassesOwn (model X.prog X.w) X.A X.env X.xe) (hc : X.calm = true) (hi : DIs X dl W tg iter it) (hg : DG X dl tg is a) (hb : DSs X dl W body b)
    (h1 : ∀ x, foldedSetIterable iter X.env x = pure x := by intro _; rfl) : DSt X dl W (.For tg iter body [] pos) (sFor it a b) := by
  refine PS.of (ps_for hp hc hi hg hb h1) fun E sg H q => ?_
  obtain ⟨F0, H0, F, G, s, w, S, g⟩ := q
  refine ⟨F, F0, H0, G, s, w, S, (g.ex (sg := sg) S.st).imp fun ds s1 F1 H1 st1 w1 g1 J hz wk => ?_⟩
  refine for_it wk (fun i sg' H' => ∃ (F' : Hp) (G' : Sls) (s' : DS), Wd dl F' H' s' ∧ Sim X.K X.mg dl F0 H0 F' H' sg' G' ∧ Same F1 F' ∧ GoS X dl W F0 H0 F' (forM a b (ds.drop i) G' s') E) ?_ ?_ ?_ ?_
  · exact ⟨F1, G, s1, w1, S.step st1, fun _ _ h => h, by simpa using g1.mono st1.fs⟩
  · rintro i sg' H' _ ⟨F', G', s', w', S', sm, _⟩ c o e
    exact w'.sub c o (sm c o e)
  · rintro i x sg' H' H2 hlt ⟨F', G', s', w', S', sm, go⟩ y
    obtain ⟨F2, d, st2, w2, e2, r2⟩ := y F' s' sm w'
    have ed : ds.drop i = d :: ds.drop (i + 1) := by
      rw [List.drop_eq_getElem_cons hlt]
      have : ds[i] = d := by
        rw [List.getElem?_eq_getElem hlt] at e2
        exact Option.some.inj e2
      rw [this]
    rw [ed] at go
    obtain ⟨G2, eG, go2⟩ := GoS.ofO go
    refine ⟨F0, H0, F2, G', s', d, G2, w2, S'.step st2, r2, eG, fun sg2 _ S2 => ?_⟩
    have smF : Same F1 F2 := fun c o h => st2.fs c o (sm c o h)
    refine ⟨F0, H0, F2, G2, s', w2, S2, ?_⟩
    refine (go2.mono st2.fs).st (fun G3 s3 g3 F3 H3 sg3 sm3 w3 S3 => ?_) (fun G3 s3 g3 => g3) (fun G3 s3 g3 F3 H3 sg3 sm3 w3 S3 => ?_) (fun d3 s3 g3 => g3)
    · exact ⟨F3, G3, s3, w3, S3, fun c o h => sm3 c o (smF c o h), g3.mono sm3⟩
    · exact ⟨F3, G3, s3, w3, S3, fun c o h => sm3 c o (smF c o h), g3.mono sm3⟩
  · rintro sg' H' ⟨F', G', s', w', S', sm, go⟩
    rw [List.drop_length] at go
    exact go F' H' sg' (fun _ _ h => h) w' S'
end

section
variable (K : PySem.W.Frag) (mg : Str → Option Value)
/-- a def's promise: from n arguments, by m -/
def spD (n : Nat) (m : List D → M D) : Sp := fun vs H Q E => vs.length = n ∧ ∃ (dl : Dr) (F : Hp) (ds : List D) (s : DS), Wd dl F H s ∧ RepL K mg dl F ds vs ∧ Go mg K dl E F H (m ds s) fun d _ F' H' => ∀ v, Rep K mg dl F' d v → Q v H'
end
/-- the slots at the beginning -/
def startG (n : Nat) (ds : List D) : Sls := ds.map (fun d => some (.fz d)) ++ List.replicate (n - ds.length) none
/-- a body, run -/
def runB (n : Nat) (b : SS) (ds : List D) : M D := bnd (b (startG n ds)) fun o => match o with
  | .next _ => ret .non
  | .ret d => ret d
  | _ => fail
theorem sim_start {K : PySem.W.Frag} {mg : Str → Option Value} {dl : Dr} {F H : Hp} {N : List Str} {ds : List D} {vs : List V} (r : RepL K mg dl F ds vs) : Sim K mg dl F H F H (start N vs) (startG N.length ds) := by
  have hl := r.length
  have key : ∀ (i : Nat) (s : Sl), (startG N.length ds)[i]? = some (some s) → ∃ d, s = .fz d ∧ ds[i]? = some d := fun i s h => by
    unfold startG at h
    by_cases q : i < ds.length
    · rw [List.getElem?_append_left (by simpa using q), List.getElem?_map] at h
      cases e : ds[i]? with
      | none => rw [e] at h; cases h
      | some d => rw [e] at h; cases h; exact ⟨d, rfl, rfl⟩
    · rw [List.getElem?_append_right (by simpa using q), List.getElem?_replicate] at h
      split at h <;> cases h
  refine ⟨?_, fun i s h => ?_, fun i j s t e1 e2 o1 o2 _ => ?_, Step.refl, Trs.no fun i t e => by
    obtain ⟨d, z, _⟩ := key i _ e
    cases z⟩
  · unfold L2.start startG
    simp only [List.length_append, List.length_map, List.length_replicate]
    rw [hl]
  · obtain ⟨d, rfl, hd⟩ := key i s h
    obtain ⟨v, h1, h2⟩ := r.get hd
    refine ⟨v, ?_, h2⟩
    unfold L2.start
    rw [List.getElem?_append_left (by simpa using get_lt h1), List.getElem?_map, h1]
    rfl
  · obtain ⟨d, rfl, _⟩ := key i s e1
    cases o1
/-- a def, its arguments bound, kept by m; by levels -/
structure DFn (P : Program) (w : World) (K : PySem.W.Frag) (mg : Str → Option Value) (base : Heap) (x : Str) (k n : Nat) (m : List D → M D) : Prop where
  ex : ∃ (f : Addr) (fd : FuncData) (ps : List Str), mg x = some (.ref f) ∧ PySem.W.keepIn K (.ref f) = true ∧ ps.length = n ∧ Binds K fd ps [] ∧ FnOk P w K mg base (L2.CX P w) k f fd ps (spD K mg n m)
theorem dfn_of {P : Program} {w : World} {K : PySem.W.Frag} {mg : Str → Option Value} {base : Heap} {x qual : Str} {st : Stmt} {f : Addr} {fd : FuncData} {N ps : List Str} {k n : Nat} {b : SS} {dvs : List V} {kws : List (Str × V)} (F : FunD K x qual (defArgs st) (defBody st) (defScope st) dvs kws f fd) (S : FnScope N ps (defScope st)) (hn : ps.length = n)
    (hb : ∀ (cdv : Value) (A : Around) (outer : List Env) (s : Shared) (H : Hp) (E : XK) (dl : Dr), Room k (cxOf (L2.CX P w) P w K mg base N qual (defScope st) f cdv A outer s H E).A →
      Takes (cxOf (L2.CX P w) P w K mg base N qual (defScope st) f cdv A outer s H E) (fun cls d _ H => E cls d H) →
      PassesOwn (model P w) (cxOf (L2.CX P w) P w K mg base N qual (defScope st) f cdv A outer s H E).A (cxOf (L2.CX P w) P w K mg base N qual (defScope st) f cdv A outer s H E).env (cxOf (L2.CX P w) P w K mg base N qual (defScope st) f cdv A outer s H E).xe →
      DSs (cxOf (L2.CX P w) P w K mg base N qual (defScope st) f cdv A outer s H E) dl (fun cls d _ H => E cls d H) (defBody st) b) :
    FnOk P w K mg base (L2.CX P w) (k + 1) f fd ps (spD K mg n (runB N.length b)) := by
  refine F.ok S (fun vs H Q E h => h.1.trans hn.symm) fun cdv A outer s H vs Q E hr h => ?_
  obtain ⟨hlen, dl, Fz, ds, s0, wd, rp, go⟩ := h
  refine ⟨_, hb cdv A outer s H E dl hr (takes_of rfl rfl rfl rfl) (passes_of rfl), ?_⟩
  refine ⟨Fz, H, Fz, startG N.length ds, s0, wd, sim_start rp, ?_⟩
  unfold runB bnd at go
  cases e : b (startG N.length ds) s0 with
  | none => rw [e] at go; exact go
  | some p =>
    obtain ⟨r, s1⟩ := p
    rw [e] at go
    cases r with
    | err x => exact fun F' H' sg' cls d st w xr => go F' H' cls d st w xr
    | ok o =>
      cases o with
      | next G => exact fun F' H' sg' sm w S => go F' H' S.st w .non rfl
      | brk G => exact go.elim
      | cont G => exact go.elim
      | ret d => exact fun F' H' v st w r => go F' H' st w v r
section
variable {X : Cx} {dl : Dr} {W : WX} {pos p : Pos} {x : Str} {e : Expr} {es : List Expr} {ra : SA} {k n : Nat} {m : List D → M D}
def gCall (n : Nat) (m : List D → M D) (ra : SA) : SE := fun G => bnd (ra G) fun ds => if ds.length = n then m ds else fail
theorem de_call (h : DFn X.prog X.w X.K X.mg X.base x k n m) (hr : Room k X.A) (tk : Takes X W) (ha : DA X dl W (e :: es) ra) (hg : Gl X x := by rfl)
    (hdb : (x == ("__debug__" : Str)) = false := by decide) (he : starEach (e :: es) X.env = (false, eval e X.env) :: starEach es X.env := by rfl) (hpl : (backTo pos (starEach es X.env)).any (·.1) = false := by rfl) :
    DE X dl W (.Call (.Name x p) (e :: es) [] pos) (gCall n m ra) := by
  obtain ⟨f, fd, ps, h1, h2, h3, h4, h5⟩ := h.ex
  refine PE.of (pe_callS h5 hr hg h1 h2 h4 (fun sg => passAt tk sg) ha hdb he hpl) fun sg H Q q => ?_
  obtain ⟨F, F0, H0, G, s, w, S, g⟩ := q
  refine ⟨F, F0, H0, G, s, w, S, g.bnd.imp fun ds s1 F1 H1 st1 w1 g1 vs rvs => ?_⟩
  by_cases hl : ds.length = n
  · rw [if_pos hl] at g1
    exact ⟨rvs.length.symm.trans hl, dl, F1, ds, s1, w1, rvs, g1⟩
  · rw [if_neg hl] at g1
    exact g1.elim
end
end EK


namespace EK
open PySem PySem.Spec PyProof.Rows L2
section
variable {X : Cx} {dl : Dr} {W : WX}
/-- from a rule over values to one over data -/
theorem rd_of {r : R2} {g : D → D → Option D} {f : Value → Value → Sem Value} (h : OpR X f r)
    (w : ∀ x y H Q F s a b d, Wd dl F H s → Rep X.K X.mg dl F a x → Rep X.K X.mg dl F b y → g a b = some d → (∀ F' H' v, Step dl F H F' H' → Wd dl F' H' s → Rep X.K X.mg dl F' d v → Q v H') → r x y H Q) : OpR X f (rD X dl g) := by
  intro pins s sg H x y v u Q I rx ry q
  obtain ⟨F, st, a, b, d, wd, ra, rb, e, k⟩ := q
  exact h pins s sg H x y v u Q I rx ry (w x y H Q F st a b d wd ra rb e k)
theorem opR_or {r r' : R2} {f : Value → Value → Sem Value} (h : OpR X f r) (h' : OpR X f r') : OpR X f (fun x y H Q => r x y H Q ∨ r' x y H Q) := by
  intro pins s sg H x y v u Q I rx ry q
  rcases q with q | q
  · exact h pins s sg H x y v u Q I rx ry q
  · exact h' pins s sg H x y v u Q I rx ry q
def iop (g : Int → Int → D) : D → D → Option D
  | .int i, .int j => some (g i j)
  | _, _ => none
theorem iop_some {g : Int → Int → D} {a b d : D} (h : iop g a b = some d) : ∃ i j, a = .int i ∧ b = .int j ∧ d = g i j := by
  unfold iop at h
  split at h
  · cases h; exact ⟨_, _, rfl, rfl, rfl⟩
  · cases h
theorem op_iop {f : Value → Value → Sem Value} {g : Int → Int → V} {g' : Int → Int → D} (h : OpR X f (rI0 g)) (hg : ∀ i j F, Rep X.K X.mg dl F (g' i j) (g i j)) : OpR X f (rD X dl (iop g')) := by
  refine rd_of h fun x y H Q F s a b d w ra rb e k => ?_
  obtain ⟨i, j, rfl, rfl, rfl⟩ := iop_some e
  exact ⟨i, j, ra, rb, k F H _ Step.refl w (hg i j F)⟩
/-- under a condition -/
def iopC (c : Int → Int → Bool) (g : Int → Int → D) : D → D → Option D
  | .int i, .int j => if c i j then some (g i j) else none
  | _, _ => none
theorem iopC_some {c : Int → Int → Bool} {g : Int → Int → D} {a b d : D} (h : iopC c g a b = some d) : ∃ i j, a = .int i ∧ b = .int j ∧ c i j = true ∧ d = g i j := by
  unfold iopC at h
  split at h
  · split at h
    · rename_i hc
      cases h; exact ⟨_, _, rfl, rfl, hc, rfl⟩
    · cases h
  · cases h
theorem op_iopC {f : Value → Value → Sem Value} {C : Int → Int → Prop} {c : Int → Int → Bool} {g : Int → Int → V} {g' : Int → Int → D} (h : OpR X f (rI C g)) (hc : ∀ i j, c i j = true → C i j) (hg : ∀ i j F, Rep X.K X.mg dl F (g' i j) (g i j)) : OpR X f (rD X dl (iopC c g')) := by
  refine rd_of h fun x y H Q F s a b d w ra rb e k => ?_
  obtain ⟨i, j, rfl, rfl, hcc, rfl⟩ := iopC_some e
  exact ⟨i, j, ra, rb, hc i j hcc, k F H _ Step.refl w (hg i j F)⟩
def subD := iop fun i j => .int (i - j)
theorem od_sub : OpR X (binaryOp .Sub) (rD X dl subD) := op_iop op_sub fun _ _ _ => rfl
def mulI : D → D → Option D := iopC (fun i j => decide ((-(2 ^ 64) < i ∧ i < 2 ^ 64) ∨ (-(2 ^ 64) < j ∧ j < 2 ^ 64))) fun i j => .int (i * j)
def fdivD : D → D → Option D := iopC (fun i j => decide (0 < j ∧ j < 1073741824)) fun i j => .int (i / j)
def modD : D → D → Option D := iopC (fun i j => decide (0 < j)) fun i j => .int (i % j)
theorem od_mod : OpR X (binaryOp .Mod) (rD X dl modD) := op_iopC op_mod (fun _ _ h => of_decide_eq_true h) fun _ _ _ => rfl
theorem od_fdiv : OpR X (binaryOp .FloorDiv) (rD X dl fdivD) := op_iopC op_fdiv (fun i j h => (of_decide_eq_true h : 0 < j ∧ j < 1073741824)) fun _ _ _ => rfl
def ltI := iop fun i j => .bl (decide (i < j))
def leI := iop fun i j => .bl (decide (i ≤ j))
def gtI := iop fun i j => .bl (decide (j < i))
def geI := iop fun i j => .bl (decide (j ≤ i))
theorem od_ltI : OpR X (compareOp .Lt) (rD X dl ltI) := op_iop op_lt fun _ _ _ => rfl
theorem od_le : OpR X (compareOp .LtE) (rD X dl leI) := op_iop op_le fun _ _ _ => rfl
theorem od_gt : OpR X (compareOp .Gt) (rD X dl gtI) := op_iop op_gt fun _ _ _ => rfl
/-- < of ints and of texts -/
def ltD : D → D → Option D
  | .int i, .int j => some (.bl (decide (i < j)))
  | .str x, .str y => some (.bl (decide (x.cps.toList < y.cps.toList)))
  | _, _ => none
def addD : D → D → Option D
  | .int i, .int j => some (.int (i + j))
  | .str x, .str y => if x.length + y.length ≤ sizeLine then some (.str (x ++ y)) else none
  | .lst xs, .lst ys => if xs.length + ys.length ≤ sizeLine then some (.lst (xs ++ ys)) else none
  | .tup xs, .tup ys => if xs.length + ys.length ≤ sizeLine then some (.tup (xs ++ ys)) else none
  | _, _ => none
theorem od_add : OpR X (binaryOp .Add) (rD X dl addD) := by
  refine rd_of (opR_or (opR_or op_add op_add_str) (opR_or op_cat op_catA)) fun x y H Q F s a b d w ra rb e k => ?_
  unfold addD at e
  split at e
  · cases e; exact .inl (.inl ⟨_, _, ra, rb, k F H _ Step.refl w rfl⟩)
  · split at e
    · rename_i hl
      cases e; exact .inl (.inr ⟨_, _, ra, rb, hl, k F H _ Step.refl w rfl⟩)
    · cases e
  · split at e
    · rename_i hl
      cases e
      obtain ⟨a1, vs, rfl, h2, h3, h4⟩ := ra
      obtain ⟨a2, us, rfl, h5, h6, h7⟩ := rb
      rw [h4.length, h7.length] at hl
      exact .inr (.inl ⟨a1, a2, vs, us, rfl, rfl, w.sub _ _ h2, w.sub _ _ h5, hl, fun p hp => k _ _ _ (Step.new w hp) (w.new hp) ⟨p, vs ++ us, rfl, upd_same, by rw [List.length_append]; exact hl, RepL.mono (Step.new w hp).fs _ _ (h4.append h7)⟩⟩)
    · cases e
  · rename_i xs ys
    split at e
    · rename_i hl
      cases e
      have ra0 := ra
      have rb0 := rb
      obtain ⟨a1, vs, rfl, h2, h3, h4⟩ := ra
      obtain ⟨a2, us, rfl, h5, h6, h7⟩ := rb
      rw [h4.length, h7.length] at hl
      refine .inr (.inr ⟨a1, a2, vs, us, rfl, rfl, Same.seqT w.sub h2, Same.seqT w.sub h5, hl, fun z => ?_, fun _ z => ?_, fun _ _ p hp => ?_⟩)
      · subst z
        have : xs = [] := List.eq_nil_of_length_eq_zero h4.length
        subst this
        exact k F H _ Step.refl w rb0
      · subst z
        have : ys = [] := List.eq_nil_of_length_eq_zero h7.length
        subst this
        exact k F H _ Step.refl w (by simpa using ra0)
      · exact k _ _ _ (Step.new w hp) (w.new hp) ⟨p, vs ++ us, rfl, SqT.of upd_same, by rw [List.length_append]; exact hl, RepL.mono (Step.new w hp).fs _ _ (h4.append h7)⟩
    · cases e
  · cases e
/-- list * n; n * n -/
def mulD : D → D → Option D
  | .lst xs, .int k => if -1000000 ≤ k ∧ k ≤ 1000000 ∧ xs.length * k.toNat ≤ sizeLine then some (.lst (List.replicate k.toNat xs).flatten) else none
  | a, b => mulI a b
theorem RepL.flat {F : Hp} {ds : List D} {vs : List V} (h : RepL X.K X.mg dl F ds vs) : ∀ n : Nat, RepL X.K X.mg dl F (List.replicate n ds).flatten (List.replicate n vs).flatten
  | 0 => rfl
  | n + 1 => by
    rw [List.replicate_succ, List.replicate_succ, List.flatten_cons, List.flatten_cons]
    exact h.append (RepL.flat h n)
theorem flat_len {α : Type} (xs : List α) : ∀ n : Nat, (List.replicate n xs).flatten.length = xs.length * n
  | 0 => by simp
  | n + 1 => by
    rw [List.replicate_succ, List.flatten_cons, List.length_append, flat_len xs n, Nat.mul_succ]
    omega
theorem od_mul : OpR X (binaryOp .Mult) (rD X dl mulD) := by
  refine rd_of (opR_or op_rep op_mul) fun x y H Q F s a b d w ra rb e k => ?_
  unfold mulD at e
  split at e
  · rename_i xs n
    split at e
    · rename_i hl
      cases e
      obtain ⟨a1, vs, rfl, h2, h3, h4⟩ := ra
      rw [h4.length] at hl
      exact .inl ⟨a1, n, vs, rfl, rb, w.sub _ _ h2, by omega, by omega, hl.2.2, fun p hp => k _ _ _ (Step.new w hp) (w.new hp) ⟨p, _, rfl, upd_same, by rw [flat_len]; exact hl.2.2, RepL.mono (Step.new w hp).fs _ _ (RepL.flat h4 n.toNat)⟩⟩
    · cases e
  · obtain ⟨i, j, rfl, rfl, hcc, rfl⟩ := iopC_some e
    exact .inr ⟨i, j, ra, rb, (of_decide_eq_true hcc : (-(2 ^ 64) < i ∧ i < 2 ^ 64) ∨ (-(2 ^ 64) < j ∧ j < 2 ^ 64)), k F H _ Step.refl w rfl⟩
mutual
def toP : D → Option PyData
  | .non => some .none
  | .bl b => some (.bool b)
  | .int i => some (.int i)
  | .str x => some (.str x)
  | .tup xs => (toPs xs).map .tuple
  | .lst xs => (toPs xs).map .list
  | .obj _ _ _ => none
  | .drw => none
  | .scr _ => none
  | .dct _ _ => none
  | .dcT _ _ => none
  | .exc _ _ _ => none
def toPs : List D → Option (List PyData)
  | [] => some []
  | d :: ds => (toP d).bind fun p => (toPs ds).map fun ps => p :: ps
end
mutual
theorem dp_of {K : PySem.W.Frag} {mg : Str → Option Value} {F H : Hp} (sub : Same F H) : ∀ (d : D) (v : V) (p : PyData), Rep K mg dl F d v → toP d = some p → Dp K H v p
  | .non, v, p, r, e => by cases e; cases (show v = .non from r); exact .non
  | .bl b, v, p, r, e => by cases e; cases (show v = .bl b from r); exact .bl b
  | .int i, v, p, r, e => by cases e; cases (show v = .int i from r); exact .int i
  | .str x, v, p, r, e => by cases e; cases (show v = .str x from r); exact .str x
  | .obj _ _ _, v, p, r, e => by cases e
  | .drw, v, p, r, e => by cases e
  | .scr _, v, p, r, e => by cases e
  | .dct _ _, v, p, r, e => by cases e
  | .dcT _ _, v, p, r, e => by cases e
  | .exc _ _ _, v, p, r, e => by cases e
  | .tup xs, v, p, r, e => by
    obtain ⟨a, vs, rfl, h2, h3, h4⟩ := r
    unfold toP at e
    cases q : toPs xs with
    | none => rw [q] at e; cases e
    | some ps => rw [q] at e; cases e; exact .tup (Same.seqT sub h2) (dps_of sub xs vs ps h4 q)
  | .lst xs, v, p, r, e => by
    obtain ⟨a, vs, rfl, h2, h3, h4⟩ := r
    unfold toP at e
    cases q : toPs xs with
    | none => rw [q] at e; cases e
    | some ps => rw [q] at e; cases e; exact .lst (SqL.of (sub _ _ h2)) (dps_of sub xs vs ps h4 q)
theorem dps_of {K : PySem.W.Frag} {mg : Str → Option Value} {F H : Hp} (sub : Same F H) : ∀ (ds : List D) (vs : List V) (ps : List PyData), RepL K mg dl F ds vs → toPs ds = some ps → DpAll K H vs ps
  | [], vs, ps, r, e => by cases e; cases (show vs = [] from r); exact .nil
  | d :: ds, vs, ps, r, e => by
    obtain ⟨v, vs', rfl, h1, h2⟩ := r
    unfold toPs at e
    cases q : toP d with
    | none => rw [q] at e; cases e
    | some p =>
      rw [q] at e
      cases q2 : toPs ds with
      | none => rw [q2] at e; cases e
      | some ps' => rw [q2] at e; cases e; exact .cons (dp_of sub d v p h1 q) (dps_of sub ds vs' ps' h2 q2)
end
/-- two data -/
def p2 (g : PyData → PyData → D) : D → D → Option D := fun a b => (toP a).bind fun p => (toP b).bind fun q => if SeqAt.shaped p = true ∧ SeqAt.shaped q = true then some (g p q) else none
theorem p2_some {g : PyData → PyData → D} {a b d : D} (h : p2 g a b = some d) : ∃ p q, toP a = some p ∧ toP b = some q ∧ SeqAt.shaped p = true ∧ SeqAt.shaped q = true ∧ d = g p q := by
  unfold p2 at h
  cases e1 : toP a with
  | none => rw [e1] at h; cases h
  | some p =>
    rw [e1] at h
    cases e2 : toP b with
    | none => rw [e2] at h; cases h
    | some q =>
      rw [e2] at h
      simp only [Option.bind_some] at h
      split at h
      · rename_i hc
        cases h
        exact ⟨p, q, rfl, rfl, hc.1, hc.2, rfl⟩
      · cases h
def eqD := p2 fun p q => .bl (PyData.eqv p q)
def neD := p2 fun p q => .bl (!PyData.eqv p q)
theorem od_eq (hu : X.A.units + 64 < cLine) : OpR X (compareOp .Eq) (rD X dl eqD) := by
  refine rd_of (op_eqD hu) fun x y H Q F s a b d w ra rb e k => ?_
  obtain ⟨p, q, h1, h2, h3, h4, rfl⟩ := p2_some e
  exact ⟨p, q, dp_of w.sub _ _ _ ra h1, dp_of w.sub _ _ _ rb h2, h3, h4, k F H _ Step.refl w rfl⟩
theorem od_ne (hu : X.A.units + 64 < cLine) : OpR X (compareOp .NotEq) (rD X dl neD) := by
  refine rd_of (op_neD hu) fun x y H Q F s a b d w ra rb e k => ?_
  obtain ⟨p, q, h1, h2, h3, h4, rfl⟩ := p2_some e
  exact ⟨p, q, dp_of w.sub _ _ _ ra h1, dp_of w.sub _ _ _ rb h2, h3, h4, k F H _ Step.refl w rfl⟩
def toV : D → Option V
  | .non => some .non
  | .bl b => some (.bl b)
  | .int i => some (.int i)
  | .str x => some (.str x)
  | _ => none
theorem toV_rep {K : PySem.W.Frag} {mg : Str → Option Value} {F : Hp} {d : D} {v u : V} (r : Rep K mg dl F d v) (e : toV d = some u) : v = u ∧ flatV u = true := by
  cases d <;> simp [toV] at e <;> subst e <;> exact ⟨r, rfl⟩
def toVs : List D → Option (List V)
  | [] => some []
  | d :: ds => (toV d).bind fun v => (toVs ds).map fun vs => v :: vs
theorem toVs_rep {K : PySem.W.Frag} {mg : Str → Option Value} {F : Hp} : ∀ {ds : List D} {vs us : List V}, RepL K mg dl F ds vs → toVs ds = some us → vs = us ∧ us.all flatV = true
  | [], vs, us, r, e => by cases e; exact ⟨r, rfl⟩
  | d :: ds, vs, us, r, e => by
    obtain ⟨v, vs', rfl, h1, h2⟩ := r
    unfold toVs at e
    cases q : toV d with
    | none => rw [q] at e; cases e
    | some p =>
      rw [q] at e
      cases q2 : toVs ds with
      | none => rw [q2] at e; cases e
      | some ps =>
        rw [q2] at e
        cases e
        obtain ⟨rfl, f1⟩ := toV_rep h1 q
        obtain ⟨rfl, f2⟩ := toVs_rep h2 q2
        exact ⟨rfl, by simp [f1, f2]⟩
/-- x in a list or a tuple of plain things; a sign in a text -/
def inB (a : D) : D → Option Bool
  | .str z => match a with
    | .str x => if x.cps.size = 1 then some (decide (x.cps.getD 0 0 ∈ z.cps.toList)) else none
    | _ => none
  | .lst ys => (toV a).bind fun v => (toVs ys).map fun vs => inV v vs
  | .tup ys => (toV a).bind fun v => (toVs ys).map fun vs => inV v vs
  | _ => none
def inD : D → D → Option D := fun a b => (inB a b).map .bl
def ninD : D → D → Option D := fun a b => (inB a b).map fun k => .bl (!k)
theorem in_core {F H : Hp} {s : DS} {a b : D} {x y : V} {k : Bool} (w : Wd dl F H s) (ra : Rep X.K X.mg dl F a x) (rb : Rep X.K X.mg dl F b y) (e : inB a b = some k) :
    (∃ (c : Nat) (z : Str), x = .str ⟨#[c]⟩ ∧ y = .str z ∧ k = decide (c ∈ z.cps.toList)) ∨ (∃ p xs, y = .ref p ∧ (SqL X.K H p xs ∨ SqT X.K H p xs) ∧ flatV x = true ∧ xs.all flatV = true ∧ k = inV x xs) := by
  cases b with
  | str z =>
    cases a with
    | str x' =>
      have e : (if x'.cps.size = 1 then some (decide (x'.cps.getD 0 0 ∈ z.cps.toList)) else none) = some k := e
      by_cases hx : x'.cps.size = 1
      · rw [if_pos hx] at e
        cases e
        refine .inl ⟨x'.cps.getD 0 0, z, ?_, rb, rfl⟩
        have : x' = ⟨#[x'.cps.getD 0 0]⟩ := by
          obtain ⟨cs⟩ := x'
          have hs : cs.size = 1 := hx
          congr 1
          apply Array.ext
          · simp [hs]
          · intro i h1 h2
            have : i = 0 := by omega
            subst this
            simp [Array.getD, hs]
        rw [← this]
        exact ra
      · rw [if_neg hx] at e; cases e
    | _ => cases e
  | lst ys =>
    have e : ((toV a).bind fun v => (toVs ys).map fun vs => inV v vs) = some k := e
    cases q : toV a with
    | none => rw [q] at e; cases e
    | some v =>
      rw [q] at e
      cases q2 : toVs ys with
      | none => rw [q2] at e; cases e
      | some vs =>
        rw [q2] at e
        cases e
        obtain ⟨rfl, f1⟩ := toV_rep ra q
        obtain ⟨a2, us, rfl, h5, h6, h7⟩ := rb
        obtain ⟨rfl, f2⟩ := toVs_rep h7 q2
        exact .inr ⟨a2, us, rfl, .inl (SqL.of (w.sub _ _ h5)), f1, f2, rfl⟩
  | tup ys =>
    have e : ((toV a).bind fun v => (toVs ys).map fun vs => inV v vs) = some k := e
    cases q : toV a with
    | none => rw [q] at e; cases e
    | some v =>
      rw [q] at e
      cases q2 : toVs ys with
      | none => rw [q2] at e; cases e
      | some vs =>
        rw [q2] at e
        cases e
        obtain ⟨rfl, f1⟩ := toV_rep ra q
        obtain ⟨a2, us, rfl, h5, h6, h7⟩ := rb
        obtain ⟨rfl, f2⟩ := toVs_rep h7 q2
        exact .inr ⟨a2, us, rfl, .inr (Same.seqT w.sub h5), f1, f2, rfl⟩
  | _ => cases e
theorem od_in : OpR X (compareOp .In) (rD X dl inD) := by
  refine rd_of (opR_or op_in_sign op_in_seq) fun x y H Q F s a b d w ra rb e k => ?_
  unfold inD at e
  cases q : inB a b with
  | none => rw [q] at e; cases e
  | some t =>
    rw [q] at e
    cases e
    rcases in_core w ra rb q with ⟨c, z, rfl, rfl, rfl⟩ | ⟨p, xs, rfl, h1, h2, h3, rfl⟩
    · exact .inl ⟨c, z, rfl, rfl, k F H _ Step.refl w rfl⟩
    · exact .inr ⟨p, xs, rfl, h1, h2, h3, k F H _ Step.refl w rfl⟩
theorem od_notIn : OpR X (compareOp .NotIn) (rD X dl ninD) := by
  refine rd_of (opR_or op_notIn_sign op_notIn_seq) fun x y H Q F s a b d w ra rb e k => ?_
  unfold ninD at e
  cases q : inB a b with
  | none => rw [q] at e; cases e
  | some t =>
    rw [q] at e
    cases e
    rcases in_core w ra rb q with ⟨c, z, rfl, rfl, rfl⟩ | ⟨p, xs, rfl, h1, h2, h3, rfl⟩
    · exact .inl ⟨c, z, rfl, rfl, k F H _ Step.refl w rfl⟩
    · exact .inr ⟨p, xs, rfl, h1, h2, h3, k F H _ Step.refl w rfl⟩
end
end EK


namespace EK
open PySem PySem.Spec PyProof.Rows L2
section
variable {X : Cx} {dl : Dr} {W : WX}
theorem rc_of {v0 : Value} {r : List V → Hp → VK → Prop} {g : List D → Option D} (h : CallR X v0 r)
    (w : ∀ xs H Q F s ds d, Wd dl F H s → RepL X.K X.mg dl F ds xs → g ds = some d → (∀ F' H' v, Step dl F H F' H' → Wd dl F' H' s → Rep X.K X.mg dl F' d v → Q v H') → r xs H Q) : CallR X v0 (rCD X dl g) := by
  intro pins s sg H xs us Q I rx q
  obtain ⟨F, st, ds, d, wd, ra, e, k⟩ := q
  exact h pins s sg H xs us Q I rx (w xs H Q F st ds d wd ra e k)
theorem callR_or {v0 : Value} {r r' : List V → Hp → VK → Prop} (h : CallR X v0 r) (h' : CallR X v0 r') : CallR X v0 (fun xs H Q => r xs H Q ∨ r' xs H Q) := by
  intro pins s sg H xs us Q I rx q
  rcases q with q | q
  · exact h pins s sg H xs us Q I rx q
  · exact h' pins s sg H xs us Q I rx q
theorem repL1 {K : PySem.W.Frag} {mg : Str → Option Value} {F : Hp} {d : D} {xs : List V} (h : RepL K mg dl F [d] xs) : ∃ v, xs = [v] ∧ Rep K mg dl F d v := by
  obtain ⟨v, vs', rfl, h1, h2⟩ := h
  cases (show vs' = [] from h2)
  exact ⟨v, rfl, h1⟩
theorem repL2 {K : PySem.W.Frag} {mg : Str → Option Value} {F : Hp} {d e : D} {xs : List V} (h : RepL K mg dl F [d, e] xs) : ∃ v u, xs = [v, u] ∧ Rep K mg dl F d v ∧ Rep K mg dl F e u := by
  obtain ⟨v, vs', rfl, h1, h2⟩ := h
  obtain ⟨u, rfl, h3⟩ := repL1 h2
  exact ⟨v, u, rfl, h1, h3⟩
def len1 : D → Option Nat
  | .lst xs => some xs.length
  | .tup xs => some xs.length
  | .str x => if x.length ≤ sizeLine then some x.length else none
  | .scr xs => some xs.length
  | _ => none
def lenD : List D → Option D
  | [d] => (len1 d).map fun (n : Nat) => D.int (n : Int)
  | _ => none
theorem cd_len : CallR X (.builtin "len") (rCD X dl lenD) := by
  refine rc_of call_len fun xs H Q F s ds d w ra e k => ?_
  unfold lenD at e
  split at e
  · rename_i d0
    obtain ⟨v, rfl, r⟩ := repL1 ra
    have fin : ∀ n : Nat, d = .int n → Q (.int n) H := fun n z => by subst z; exact k F H _ Step.refl w rfl
    cases d0 with
    | lst ys =>
      obtain ⟨a1, vs, rfl, h2, h3, h4⟩ := r
      cases e
      exact ⟨_, ys.length, rfl, .inl ⟨vs, SqL.of (w.sub _ _ h2), h4.length⟩, fin _ rfl⟩
    | tup ys =>
      obtain ⟨a1, vs, rfl, h2, h3, h4⟩ := r
      cases e
      exact ⟨_, ys.length, rfl, .inr ⟨vs, Same.seqT w.sub h2, h4.length⟩, fin _ rfl⟩
    | scr ys =>
      obtain ⟨a1, rfl, h2, h3⟩ := r
      cases e
      exact ⟨_, ys.length, rfl, .inl ⟨_, L2.Same.seq w.sub h2, by simp⟩, fin _ rfl⟩
    | str z =>
      cases (show v = .str z from r)
      have e : (if z.length ≤ sizeLine then some z.length else none).map (fun n : Nat => D.int n) = some d := e
      by_cases hz : z.length ≤ sizeLine
      · rw [if_pos hz] at e
        cases e
        exact ⟨_, z.length, rfl, ⟨hz, rfl⟩, fin _ rfl⟩
      · rw [if_neg hz] at e; cases e
    | _ => cases e
  · cases e
/-- len of an own list -/
def gLenO (i : Nat) : SE := fun G => bnd (gItO i G) fun ds => ret (.int ds.length)
def bools : List D → Option (List Bool)
  | [] => some []
  | .bl b :: ds => (bools ds).map fun bs => b :: bs
  | _ => none
theorem bools_rep {K : PySem.W.Frag} {mg : Str → Option Value} {F : Hp} : ∀ {ds : List D} {vs : List V} {bs : List Bool}, RepL K mg dl F ds vs → bools ds = some bs → vs = bs.map V.bl
  | [], vs, bs, r, e => by cases e; exact r
  | d :: ds, vs, bs, r, e => by
    obtain ⟨v, vs', rfl, h1, h2⟩ := r
    cases d with
    | bl b =>
      unfold bools at e
      cases q : bools ds with
      | none => rw [q] at e; cases e
      | some cs =>
        rw [q] at e
        cases e
        cases (show v = .bl b from h1)
        rw [bools_rep h2 q]
        rfl
    | _ => cases e
def allD : List D → Option D
  | [.lst ds] => (bools ds).map fun bs => .bl (bs.all id)
  | _ => none
def anyD : List D → Option D
  | [.lst ds] => (bools ds).map fun bs => .bl (bs.any id)
  | _ => none
theorem cd_all (hc : X.calm = true) : CallR X (.builtin "all") (rCD X dl allD) := by
  refine rc_of (cr_all hc) fun xs H Q F s ds d w ra e k => ?_
  unfold allD at e
  split at e
  · rename_i ds0
    obtain ⟨v, rfl, r⟩ := repL1 ra
    obtain ⟨a1, vs, rfl, h2, h3, h4⟩ := r
    cases q : bools ds0 with
    | none => rw [q] at e; cases e
    | some bs =>
      rw [q] at e
      cases e
      cases bools_rep h4 q
      exact ⟨a1, bs, rfl, SqL.of (w.sub _ _ h2), k F H _ Step.refl w rfl⟩
  · cases e
def tupleD : List D → Option D
  | [.lst ds] => some (.tup ds)
  | [.tup ds] => some (.tup ds)
  | _ => none
theorem cd_tuple : CallR X (.type "tuple") (rCD X dl tupleD) := by
  refine rc_of call_tuple_of fun xs H Q F s ds d w ra e k => ?_
  unfold tupleD at e
  split at e
  · cases e
    obtain ⟨v, rfl, a1, vs, rfl, h2, h3, h4⟩ := repL1 ra
    exact ⟨a1, vs, rfl, .inl ⟨SqL.of (w.sub _ _ h2), fun p hp => k _ _ _ (Step.new w hp) (w.new hp) ⟨p, vs, rfl, SqT.of upd_same, h3, RepL.mono (Step.new w hp).fs _ _ h4⟩⟩⟩
  · cases e
    obtain ⟨v, rfl, r⟩ := repL1 ra
    have r0 := r
    obtain ⟨a1, vs, rfl, h2, h3, h4⟩ := r
    exact ⟨a1, vs, rfl, .inr ⟨Same.seqT w.sub h2, k F H _ Step.refl w r0⟩⟩
  · cases e
def listD : List D → Option D
  | [.lst ds] => some (.lst ds)
  | [.tup ds] => some (.lst ds)
  | _ => none
theorem cd_list : CallR X (.type "list") (rCD X dl listD) := by
  refine rc_of call_list_of fun xs H Q F s ds d w ra e k => ?_
  unfold listD at e
  split at e
  · cases e
    obtain ⟨v, rfl, a1, vs, rfl, h2, h3, h4⟩ := repL1 ra
    exact ⟨a1, vs, rfl, .inl (SqL.of (w.sub _ _ h2)), fun p hp => k _ _ _ (Step.new w hp) (w.new hp) ⟨p, vs, rfl, upd_same, h3, RepL.mono (Step.new w hp).fs _ _ h4⟩⟩
  · cases e
    obtain ⟨v, rfl, a1, vs, rfl, h2, h3, h4⟩ := repL1 ra
    exact ⟨a1, vs, rfl, .inr (Same.seqT w.sub h2), fun p hp => k _ _ _ (Step.new w hp) (w.new hp) ⟨p, vs, rfl, upd_same, h3, RepL.mono (Step.new w hp).fs _ _ h4⟩⟩
  · cases e
/-- .. as a list of the def's own -/
def gLO1 (g : List D → Option D) (r : SA) : SA := fun G => bnd (r G) fun ds => ofO ((g ds).bind itemsTL)
def min2D : List D → Option D
  | [.int i, .int j] => some (.int (if j < i then j else i))
  | _ => none
theorem cd_min2 (hc : X.calm = true) : CallR X (.builtin "min") (rCD X dl min2D) := by
  refine rc_of (call_min2 hc) fun xs H Q F s ds d w ra e k => ?_
  unfold min2D at e
  split at e
  · cases e
    obtain ⟨v, u, rfl, r1, r2⟩ := repL2 ra
    exact ⟨_, _, by rw [show v = .int _ from r1, show u = .int _ from r2], k F H _ Step.refl w rfl⟩
  · cases e
def ixD : D → D → Option D
  | .lst xs, .int i => atI xs i
  | .tup xs, .int i => atI xs i
  | .str x, .int i => if x.length ≤ sizeLine then (atI x.cps.toList i).map fun c => .str ⟨#[c]⟩ else none
  | _, _ => none
theorem atI_rep {K : PySem.W.Frag} {mg : Str → Option Value} {F : Hp} {ds : List D} {vs : List V} {i : Int} {d : D} (h : RepL K mg dl F ds vs) (e : atI ds i = some d) : ∃ v, atI vs i = some v ∧ Rep K mg dl F d v := by
  unfold atI at e ⊢
  rw [h.length] at e
  cases q : ixN vs.length i with
  | none => rw [q] at e; cases e
  | some j =>
    rw [q] at e
    exact h.get e
theorem ix_seqD : IxR X (rD X dl ixD) := by
  intro value slice pins s sg H x y v u Q I rx ry q hsub
  obtain ⟨F, st, a, b, d, w, ra, rb, e, k⟩ := q
  refine ix_seq value slice pins s sg H x y v u Q I rx ry ?_ hsub
  unfold ixD at e
  split at e
  · obtain ⟨a1, vs, rfl, h2, h3, h4⟩ := ra
    obtain ⟨v1, e1, r1⟩ := atI_rep h4 e
    exact .inl ⟨a1, vs, _, v1, rfl, rb, SqL.of (w.sub _ _ h2), e1, k F H _ Step.refl w r1⟩
  · obtain ⟨a1, vs, rfl, h2, h3, h4⟩ := ra
    obtain ⟨v1, e1, r1⟩ := atI_rep h4 e
    exact .inr (.inl ⟨a1, vs, _, v1, rfl, rb, Same.seqT w.sub h2, e1, k F H _ Step.refl w r1⟩)
  · rename_i z i
    split at e
    · rename_i hz
      cases q : atI z.cps.toList i with
      | none => rw [q] at e; cases e
      | some c =>
        rw [q] at e
        cases e
        exact .inr (.inr ⟨z, i, c, ra, rb, hz, q, k F H _ Step.refl w rfl⟩)
    · cases e
  · cases e
theorem de_sub {a b : Expr} {fa fb : SE} {pos : Pos} (ha : DE X dl W a fa) (hb : DE X dl W b fb) (hs : PlainIx b := by exact fun _ _ => rfl) : DE X dl W (.Subscript a b pos) (g2 ixD fa fb) := de_ix ix_seqD ha hb hs
abbrev SO := Sls → M (Option Int)
def oNone : SO := fun _ => ret none
def asI : D → Option (Option Int)
  | .int i => some (some i)
  | _ => none
def oSome (f : SE) : SO := fun G => bnd (f G) fun d => ofO (asI d)
section
variable (X dl W)
def tDO' (f : SO) : TO := fun sg H Q => ∃ F, tGF X dl W F f (fun o _ H' => Q o H') sg H
abbrev DOp (e : Option Expr) (f : SO) : Prop := PO X e (tDO' X dl W f)
end
theorem PO.of {e : Option Expr} {t t' : TO} (h : PO X e t) (w : ∀ sg H Q, t' sg H Q → t sg H Q) : PO X e t' := ⟨fun pins s sg H Q I q => h.run pins s sg H Q I (w _ _ _ q)⟩
theorem do_none : DOp X dl W none oNone := by
  refine PO.of po_none fun sg H Q q => ?_
  obtain ⟨F, q⟩ := q
  exact q.rt
theorem do_some {e : Expr} {f : SE} (h : DE X dl W e f) : DOp X dl W (some e) (oSome f) := by
  refine PO.of (po_some h) fun sg H Q q => ?_
  obtain ⟨F, q⟩ := q
  refine ⟨F, q.bnd.imp fun d F1 H1 ⟨st1, q1⟩ v rv => ?_⟩
  obtain ⟨o, s, e1, w, q2⟩ := q1.op
  cases d with
  | int i =>
    cases e1
    exact ⟨i, rv, q2 F1 H1 Step.refl w⟩
  | _ => cases e1
def cutL {α : Type} (xs : List α) (lo hi : Option Int) : List α := (xs.drop (HT.sIx xs.length 0 lo)).take (HT.sIx xs.length xs.length hi - HT.sIx xs.length 0 lo)
def sliceD (lo hi : Option Int) : D → Option D
  | .lst xs => some (.lst (cutL xs lo hi))
  | .tup xs => some (.tup (cutL xs lo hi))
  | _ => none
theorem RepL.cut {K : PySem.W.Frag} {mg : Str → Option Value} {F : Hp} {ds : List D} {vs : List V} (h : RepL K mg dl F ds vs) (lo hi : Option Int) : RepL K mg dl F (cutL ds lo hi) (cutV vs lo hi) := by
  unfold cutL cutV
  rw [h.length]
  exact (h.drop _).take _
theorem cut_le {vs : List V} {lo hi : Option Int} (h : vs.length ≤ sizeLine) : (cutV vs lo hi).length ≤ sizeLine := by
  unfold cutV
  rw [List.length_take, List.length_drop]
  omega
def gSl (f : SE) (lo hi : SO) : SE := fun G => bnd (f G) fun d => bnd (lo G) fun l => bnd (hi G) fun u => ofO (sliceD l u d)
theorem de_slice {e : Expr} {l u : Option Expr} {f : SE} {fl fu : SO} {p2 pos : Pos} (he : DE X dl W e f) (hl : DOp X dl W l fl) (hu : DOp X dl W u fu) : DE X dl W (.Subscript e (.Slice l u none p2) pos) (gSl f fl fu) := by
  refine PE.of (pe_slice (SlR.or sl_list sl_tupA) he hl hu) fun sg H Q q => ?_
  obtain ⟨F, q⟩ := q
  refine ⟨F, q.bnd.imp fun d F1 H1 ⟨st1, q1⟩ v rv => ⟨F1, q1.bnd.imp fun lo F2 H2 ⟨st2, q2⟩ => ⟨F2, q2.bnd.imp fun hi F3 H3 ⟨st3, q3⟩ => ?_⟩⟩⟩
  obtain ⟨r, s, e1, w, q4⟩ := q3.op
  have rv3 := Rep.mono (st2.trans st3).fs _ _ rv
  cases d with
  | lst xs =>
    cases e1
    obtain ⟨a1, vs, rfl, h2, h3, h4⟩ := rv3
    exact .inl ⟨a1, vs, rfl, SqL.of (w.sub _ _ h2), fun p hp => q4 _ _ (Step.new w hp) (w.new hp) _ ⟨p, _, rfl, upd_same, cut_le h3, RepL.mono (Step.new w hp).fs _ _ (h4.cut lo hi)⟩⟩
  | tup xs =>
    cases e1
    have rv0 := rv3
    obtain ⟨a1, vs, rfl, h2, h3, h4⟩ := rv3
    refine .inr ⟨a1, vs, rfl, Same.seqT w.sub h2, fun hz => ?_, fun _ p hp => q4 _ _ (Step.new w hp) (w.new hp) _ ⟨p, _, rfl, SqT.of upd_same, cut_le h3, RepL.mono (Step.new w hp).fs _ _ (h4.cut lo hi)⟩⟩
    have e : cutL xs lo hi = xs := by
      unfold cutL
      rw [h4.length, hz.1, hz.2, List.drop_zero, Nat.sub_zero, ← h4.length, List.take_length]
    rw [e] at q4
    exact q4 F3 H3 Step.refl w _ rv0
  | _ => cases e1
end
end EK


namespace EK
open PySem PySem.Spec PyProof.Rows L2
/-- a class of the text -/
def ClsF (K : PySem.W.Frag) (mg : Str → Option Value) (c : Str) : Prop := ∃ C, mg c = some (.ref C) ∧ Cls K C
def FldF (K : PySem.W.Frag) (mg : Str → Option Value) (c f : Str) : Prop := ∃ C, mg c = some (.ref C) ∧ Cls K C ∧ NoAttr K C f
section
variable {X : Cx} {dl : Dr} {W : WX} {pos apos p : Pos} {e : Expr} {fe : SE}
/-- of the class c -/
def isC (c : Str) : D → Bool
  | .obj c' _ _ => decide (c' = c)
  | _ => false
theorem isC_some {c : Str} {d : D} (h : isC c d = true) : ∃ ns xs, d = .obj c ns xs := by
  cases d with
  | obj c' ns xs => exact ⟨ns, xs, by rw [of_decide_eq_true h]⟩
  | _ => cases h
def fldD (c f : Str) : D → Option D
  | .obj c' ns xs => if c' = c then (ns.zip xs).lookup f else none
  | _ => none
theorem zip_lookup {K : PySem.W.Frag} {mg : Str → Option Value} {F : Hp} {f : Str} {d : D} : ∀ {ns : List Str} {xs : List D} {vs : List V}, RepL K mg dl F xs vs → (ns.zip xs).lookup f = some d → ∃ v, (ns.zip vs).lookup f = some v ∧ Rep K mg dl F d v
  | [], _, _, _, e => by simp at e
  | n :: ns, [], _, _, e => by simp at e
  | n :: ns, x :: xs, vs, r, e => by
    obtain ⟨v, vs', rfl, h1, h2⟩ := r
    rw [List.zip_cons_cons] at e ⊢
    unfold List.lookup at e ⊢
    cases q : (f == n) with
    | true =>
      simp only [q] at e ⊢
      cases e
      exact ⟨v, rfl, h1⟩
    | false =>
      simp only [q] at e ⊢
      exact zip_lookup h2 e
def gFld (c f : Str) (fe : SE) : SE := fun G => bnd (fe G) fun d => ofO (fldD c f d)
theorem de_fld {c f : Str} (h : FldF X.K X.mg c f) (he : DE X dl W e fe) (hb : attributeBase e f X.env (eval e X.env) = eval e X.env := by rfl) : DE X dl W (.Attribute e f pos) (gFld c f fe) := by
  obtain ⟨C, h1, h2, h3⟩ := h
  refine PE.of (pe_fld he hb) fun sg H Q q => ?_
  obtain ⟨F, q⟩ := q
  refine ⟨F, q.bnd.imp fun d F1 H1 ⟨st1, q1⟩ v rv => ?_⟩
  obtain ⟨y, s, e1, w, q2⟩ := q1.op
  cases d with
  | obj c' ns xs =>
    have e2 : (if c' = c then (ns.zip xs).lookup f else none) = some y := e1
    by_cases hc : c' = c
    · rw [if_pos hc] at e2
      subst hc
      obtain ⟨a, dx, C', vs, rfl, m2, m3, m4, m5, m6⟩ := rv
      rw [h1] at m2
      cases m2
      obtain ⟨u, l1, l2⟩ := zip_lookup m6 e2
      exact ⟨a, C, dx, _, u, rfl, w.sub _ _ m3, h2, h3, l1, q2 F1 H1 Step.refl w u l2⟩
    · rw [if_neg hc] at e2; cases e2
  | _ => cases e1
structure PropF (P : Program) (w : World) (K : PySem.W.Frag) (mg : Str → Option Value) (base : Heap) (c f : Str) (k : Nat) (m : List D → M D) : Prop where
  ex : ∃ (C p g : Addr) (fd : FuncData) (ps : List Str), mg c = some (.ref C) ∧ Cls K C ∧ PropOf K C f p g ∧ ps.length = 1 ∧ Binds K fd ps [] ∧ FnOk P w K mg base (L2.CX P w) k g fd ps (spD K mg 1 m)
def gProp (c : Str) (m : List D → M D) (fe : SE) : SE := fun G => bnd (fe G) fun d => if isC c d then noErr (m [d]) else fail
theorem obj_at {F H : Hp} {c : Str} {C : Addr} {d : D} {v : V} (h1 : X.mg c = some (.ref C)) (sub : Same F H) (hc : isC c d = true) (r : Rep X.K X.mg dl F d v) : ∃ a dx fs, v = .ref a ∧ H a = some (.ins C dx fs) ∧ ∃ ns xs vs, d = .obj c ns xs ∧ fs = ns.zip vs ∧ ns.length = vs.length := by
  obtain ⟨ns, xs, rfl⟩ := isC_some hc
  obtain ⟨a, dx, C', vs, rfl, m2, m3, m4, m5, m6⟩ := r
  rw [h1] at m2
  cases m2
  exact ⟨a, dx, _, rfl, sub _ _ m3, ns, xs, vs, rfl, rfl, m5⟩
structure MethF (P : Program) (w : World) (K : PySem.W.Frag) (mg : Str → Option Value) (base : Heap) (c m : Str) (k n : Nat) (fm : List D → M D) : Prop where
  ex : ∃ (C g : Addr) (fd : FuncData) (ps : List Str), mg c = some (.ref C) ∧ Cls K C ∧ Meth K C m g ∧ ps.length = n + 1 ∧ Binds K fd ps [] ∧ FnOk P w K mg base (L2.CX P w) k g fd ps (spD K mg (n + 1) fm)
/-- the class's own name is no attribute of the object -/
def noFld (m : Str) : D → Bool
  | .obj _ ns _ => !ns.contains m
  | _ => false
def gMeth (c m : Str) (n : Nat) (fm : List D → M D) (fe : SE) (ra : SA) : SE := fun G => bnd (fe G) fun d => if isC c d && noFld m d then bnd (ra G) fun ds => if ds.length = n then fm (d :: ds) else fail else fail
def gMeth0 (c m : Str) (fm : List D → M D) (fe : SE) : SE := fun G => bnd (fe G) fun d => if isC c d && noFld m d then fm [d] else fail
def tyN : D → Option String
  | .non => some "NoneType"
  | .bl _ => some "bool"
  | .int _ => some "int"
  | .str _ => some "str"
  | .tup _ => some "tuple"
  | .lst _ => some "list"
  | .scr _ => some "list"
  | .drw => some "dict"
  | .dct _ _ => some "dict"
  | .dcT _ _ => none
  | .exc _ _ _ => none
  | .obj _ _ _ => none
theorem tyx_of {F H : Hp} {s : DS} {d : D} {v : V} {t : String} (w : Wd dl F H s) (r : Rep X.K X.mg dl F d v) (e : tyN d = some t) : TyX X.K H v (.type t) := by
  cases d with
  | non => cases e; cases (show v = .non from r); exact .base .non
  | bl b => cases e; cases (show v = .bl b from r); exact .base (.bl b)
  | int i => cases e; cases (show v = .int i from r); exact .base (.int i)
  | str x => cases e; cases (show v = .str x from r); exact .base (.str x)
  | tup xs =>
    cases e
    obtain ⟨a1, vs, rfl, h2, h3, h4⟩ := r
    rcases Same.seqT w.sub h2 with (h | ⟨o, h⟩) | ⟨o, its, n, hk, hc, _⟩
    · exact .base (.tup h)
    · exact .fTuple h
    · exact .kTuple hk hc
  | lst xs =>
    cases e
    obtain ⟨a1, vs, rfl, h2, h3, h4⟩ := r
    exact .base (.lst (w.sub _ _ h2))
  | scr xs =>
    cases e
    obtain ⟨a1, rfl, h2, h3⟩ := r
    rcases L2.Same.seq w.sub h2 with (h | ⟨o, h⟩) | ⟨o, its, n, hk, hc, _⟩
    · exact .base (.lst h)
    · exact .base (.frz h)
    · exact .kList hk hc
  | drw => cases e; cases (show v = .ref dl.a from r); exact .base (.dK w.dr.1)
  | obj _ _ _ => cases e
  | dct ks xs =>
    cases e
    obtain ⟨a1, o, vs, rfl, h2, _⟩ := r
    exact .fDict (w.sub _ _ h2)
  | dcT _ _ => cases e
  | exc _ _ _ => cases e
/-- what a class of the text says to isinstance -/
structure IsiF (K : PySem.W.Frag) (mg : Str → Option Value) (c : Str) (T : Value) (b : Bool) : Prop where
  ex : ∃ C, mg c = some (.ref C) ∧ Cls K C ∧ PySem.W.findIn K (.ref C) "__class__" = some (some (.builtin "object.__class__")) ∧ PySem.W.specialIn K (.builtin "object.__class__") "__get__" = some (some (.builtin "getset_descriptor.__get__")) ∧
    PySem.W.takesIn K (.builtin "object.__class__") = some true ∧ PySem.W.mroIn K C (.type "object") = some true ∧ PySem.W.kitOne K (.ref C) T = some b
theorem tyx_obj {F H : Hp} {s : DS} {c : Str} {d : D} {v : V} {T : Value} {b : Bool} (w : Wd dl F H s) (h : IsiF X.K X.mg c T b) (hc : isC c d = true) (r : Rep X.K X.mg dl F d v) : ∃ C, TyX X.K H v (.ref C) ∧ PySem.W.kitOne X.K (.ref C) T = some b := by
  obtain ⟨C, h1, h2, h3, h4, h5, h6, h7⟩ := h.ex
  obtain ⟨a, dx, fs, rfl, ha, _⟩ := obj_at h1 w.sub hc r
  exact ⟨C, .base (.ins ha h2 h3 h4 h5 h6), h7⟩
/-- isinstance(e, T): by the classes that are known (each with its answer), and by the type of plain data -/
def isiD (cs : List (Str × Bool)) (ans : String → Option Bool) : D → Option D
  | .obj c _ _ => (cs.lookup c).map .bl
  | d => (tyN d).bind fun t => (ans t).map .bl
theorem de_isi {T : Value} {cv : V} {c2 : Expr} {cs : List (Str × Bool)} {ans : String → Option Bool} (hg : Gl X "isinstance") (hm : X.mg "isinstance" = none) (hT : PE X c2 (tC cv)) (hcv : ClsV cv T) (hcs : ∀ c b, cs.lookup c = some b → IsiF X.K X.mg c T b) (hans : ∀ t b, ans t = some b → PySem.W.kitOne X.K (.type t) T = some b) (he : DE X dl W e fe)
    (hs1 : starEach [e, c2] X.env = (false, eval e X.env) :: starEach [c2] X.env := by rfl) (hs2 : starEach [c2] X.env = (false, eval c2 X.env) :: starEach [] X.env := by rfl) (hpl : (backTo pos (starEach [c2] X.env)).any (·.1) = false := by rfl) :
    DE X dl W (.Call (.Name "isinstance" p) [e, c2] [] pos) (g1 (isiD cs ans) fe) := by
  refine PE.of (pe_callB call_isi hg hm (by decide +kernel) (pa_cons he (pa_cons hT pa_nil hs2) hs1) (by decide) (by decide) hs1 hpl) fun sg H Q q => ?_
  obtain ⟨F, q⟩ := q
  refine ⟨F, q.bnd.imp fun d F1 H1 ⟨st1, q1⟩ v rv => ?_⟩
  obtain ⟨y, s, e1, w, q2⟩ := q1.op
  cases hd : tyN d with
  | some t =>
    have e2 : ((ans t).map D.bl) = some y := by
      cases d <;> first | (simpa [isiD, hd] using e1) | (simp [tyN] at hd)
    cases ha : ans t with
    | none => rw [ha] at e2; cases e2
    | some b =>
      rw [ha] at e2
      cases e2
      exact ⟨v, cv, .type t, T, b, rfl, hcv, tyx_of w rv hd, hans t b ha, q2 F1 H1 Step.refl w _ rfl⟩
  | none =>
    cases d with
    | obj c ns xs =>
      have e2 : ((cs.lookup c).map D.bl) = some y := e1
      cases hc : cs.lookup c with
      | none => rw [hc] at e2; cases e2
      | some b =>
        rw [hc] at e2
        cases e2
        obtain ⟨C, t1, t2⟩ := tyx_obj w (hcs c b hc) (by simp [isC]) rv
        exact ⟨v, cv, .ref C, T, b, rfl, hcv, t1, t2, q2 F1 H1 Step.refl w _ rfl⟩
    | dcT _ _ => cases e1
    | exc _ _ _ => cases e1
    | _ => cases hd
end
end EK


namespace PySem.W
open PySem PySem.Calls PyProof.Rows
section
variable {prog : Program} {w : World} {A : Around} {E : Value → Shared → Prop} {s : Shared} {K : Frag} {x C L f : Addr} {h₀ : Heap} {m : Str → Option Value} {ox : Obj} {od : Option Obj} {b tb : Value}
end
end PySem.W

namespace EK
open PySem PySem.Spec PyProof.Rows L2
section
variable {mg : Str → Option Value} {K : PySem.W.Frag} {dl dl' : Dr} {W : XK'} {F H : Hp}
theorem Wd.toDl {s : DS} (h : dl'.a = dl.a ∧ dl'.w = dl.w ∧ dl'.c = dl.c ∧ dl'.tabs = dl.tabs) (w : Wd dl F H s) : Wd dl' F H s := by
  obtain ⟨h1, h2, h3, h4⟩ := h
  refine ⟨w.sub, fun b hb => w.off b ?_, ?_, by rw [h4]; exact w.tb⟩
  · unfold Dr.has at hb ⊢
    rw [h1, h2, h3, h4] at hb
    exact hb
  · obtain ⟨d1, d2, d3, d4⟩ := w.dr
    unfold DrawOk
    rw [h1, h2, h3]
    exact ⟨d1, d2, d3, d4⟩
theorem Step.toDl {F' H' : Hp} (h : dl'.a = dl.a ∧ dl'.w = dl.w ∧ dl'.c = dl.c ∧ dl'.tabs = dl.tabs) (w : Step dl F H F' H') : Step dl' F H F' H' := by
  obtain ⟨h1, h2, h3, h4⟩ := h
  refine ⟨w.fs, fun b o nb e => w.hs b o (fun z => nb ?_) e, w.nw, w.al⟩
  unfold Dr.has at z ⊢
  rw [h1, h2, h3, h4]
  exact z
theorem Go.toDl {α : Type} {r : Option (Res α × DS)} {k k' : α → DS → Hp → Hp → Prop} (h : dl'.a = dl.a ∧ dl'.w = dl.w ∧ dl'.c = dl.c ∧ dl'.tabs = dl.tabs) (g : Go mg K dl W F H r k) (hk : ∀ a s F' H', Step dl' F H F' H' → Wd dl' F' H' s → k a s F' H' → k' a s F' H') : Go mg K dl' W F H r k' := by
  have hb : dl.a = dl'.a ∧ dl.w = dl'.w ∧ dl.c = dl'.c ∧ dl.tabs = dl'.tabs := ⟨h.1.symm, h.2.1.symm, h.2.2.1.symm, h.2.2.2.symm⟩
  cases r with
  | none => exact g
  | some p =>
    obtain ⟨r, s1⟩ := p
    cases r with
    | ok a => exact fun F1 H1 st w => hk a s1 F1 H1 st w (g F1 H1 (st.toDl hb) (w.toDl hb))
    | err x =>
      intro F1 H1 cls d st w xr
      refine g F1 H1 cls d (st.toDl hb) (w.toDl hb) ?_
      obtain ⟨C, x1, x2, x3⟩ := xr
      refine ⟨C, x1, x2, ?_⟩
      rcases x3 with x3 | ⟨x3, a, vs, y1, y2, y3, y4⟩
      · exact .inl x3
      · exact .inr ⟨x3, a, vs, y1, y2, y3, RepL.dl h.1 _ _ y4⟩
end
/-- what __init__ promises: the attributes of the new instance of c -/
def spI (K : PySem.W.Frag) (mg : Str → Option Value) (c : Str) (n : Nat) (m : List D → M (List Str × List D)) : Sp := fun vs H Q E => ∃ (dl : Dr) (F H1 : Hp) (ds : List D) (ws : List V) (s : DS) (C : Addr),
  vs = .ref dl.o :: ws ∧ ws.length = n ∧ mg c = some (.ref C) ∧ Wd dl F H1 s ∧ H1 dl.o = none ∧ H1 dl.ox = none ∧ dl.ox ≠ dl.o ∧ H = upd (upd H1 dl.ox (.own dl.o)) dl.o (.ins C dl.ox []) ∧ RepL K mg dl F ds ws ∧
    Go mg K dl E F H1 (m ds s) fun r _ F' H' => ∀ us, H' dl.o = some (.ins C dl.ox (r.1.zip us)) → H' dl.ox = some (.own dl.o) → F' dl.o = none → F' dl.ox = none → r.1.length = us.length → RepL K mg dl F' r.2 us → Q .non H'
def startI (c : Str) (n : Nat) (ds : List D) : Sls := some (.ini c [] []) :: startG (n - 1) ds
def runI (c : Str) (n : Nat) (b : SS) (ds : List D) : M (List Str × List D) := bnd (b (startI c n ds)) fun o => match o with
  | .next G => (match (G[0]? : Option (Option Sl)) with
    | some (some (.ini c' ns xs)) => if c' = c then ret (ns, xs) else fail
    | _ => fail)
  | _ => fail
theorem start_cons {N : List Str} {v : V} {vs : List V} (h : N.length ≥ 1) : L2.start N (v :: vs) = some v :: L2.start N.tail vs := by
  unfold L2.start
  rw [List.map_cons, List.cons_append, List.length_cons, List.length_tail]
  congr 3
  omega
theorem sim_startI {K : PySem.W.Frag} {mg : Str → Option Value} {dl : Dr} {F H1 : Hp} {s : DS} {N : List Str} {ds : List D} {ws : List V} {c : Str} {C : Addr} (hN : N.length ≥ 1) (w : Wd dl F H1 s) (h1 : H1 dl.o = none) (h2 : H1 dl.ox = none) (ne : dl.ox ≠ dl.o) (hc : mg c = some (.ref C)) (r : RepL K mg dl F ds ws) :
    Sim K mg dl F H1 F (upd (upd H1 dl.ox (.own dl.o)) dl.o (.ins C dl.ox [])) (L2.start N (.ref dl.o :: ws)) (startI c N.length ds) := by
  have base : Sim K mg dl F (upd (upd H1 dl.ox (.own dl.o)) dl.o (.ins C dl.ox [])) F (upd (upd H1 dl.ox (.own dl.o)) dl.o (.ins C dl.ox [])) (L2.start N.tail ws) (startG N.tail.length ds) := sim_start r
  rw [start_cons hN]
  have el : N.tail.length = N.length - 1 := List.length_tail
  have hox : (upd (upd H1 dl.ox (.own dl.o)) dl.o (.ins C dl.ox [])) dl.ox = some (.own dl.o) := by rw [upd_ne ne, upd_same]
  refine ⟨?_, fun i sl e => ?_, fun i j sl t e1 e2 o1 o2 e3 => ?_, ⟨fun _ _ h => h, fun b o nb e => ?_, fun b o e => .inl e, fun b e => ?_⟩, Trs.no fun i t e => by
    cases i with
    | zero =>
      unfold startI at e
      simp only [List.getElem?_cons_zero, Option.some.injEq] at e
      cases e
    | succ i =>
      unfold startI at e
      simp only [List.getElem?_cons_succ] at e
      unfold startG at e
      by_cases q : i < ds.length
      · rw [List.getElem?_append_left (by simpa using q), List.getElem?_map] at e
        cases e2 : ds[i]? with
        | none => rw [e2] at e; cases e
        | some d => rw [e2] at e; cases e
      · rw [List.getElem?_append_right (by simpa using q), List.getElem?_replicate] at e
        split at e <;> cases e⟩
  · unfold startI
    rw [List.length_cons, List.length_cons, ← el, base.len]
  · cases i with
    | zero =>
      unfold startI at e
      simp only [List.getElem?_cons_zero, Option.some.injEq] at e
      subst e
      exact ⟨.ref dl.o, rfl, dl.o, dl.ox, C, [], rfl, hc, upd_same, hox, w.fnone h1, w.fnone h2, h1, h2, w.na h1, w.na h2, rfl, ⟨Nat.zero_le _, rfl, rfl⟩, rfl⟩
    | succ i =>
      unfold startI at e
      simp only [List.getElem?_cons_succ] at e
      rw [← el] at e
      obtain ⟨v, k1, k2⟩ := base.sl i sl e
      refine ⟨v, by simpa using k1, ?_⟩
      cases sl with
      | fz d => exact k2
      | own xs =>
        exfalso
        obtain ⟨a, us, _, m2, m3, m4, _⟩ := k2
        rw [m4] at m2; cases m2
      | ini cc ns xs =>
        exfalso
        obtain ⟨a, dx, C', us, _, _, m3, m4, m5, m6, m7, _⟩ := k2
        rw [m7] at m3; cases m3
      | ownX kk xs =>
        exfalso
        obtain ⟨a, us, _, m2, m3, m4, _⟩ := k2
        rw [m4] at m2; cases m2
      | tree _ => trivial
  · have z : ∀ (i : Nat) (sl : Sl), (startI c N.length ds)[i]? = some (some sl) → sl.isOwn = true → i = 0 := fun i sl e o => by
      cases i with
      | zero => rfl
      | succ i =>
        exfalso
        unfold startI at e
        simp only [List.getElem?_cons_succ] at e
        rw [← el] at e
        obtain ⟨v, k1, k2⟩ := base.sl i sl e
        cases sl with
        | fz d => cases o
        | own xs =>
          obtain ⟨a, us, _, m2, m3, m4, _⟩ := k2
          rw [m4] at m2; cases m2
        | ini cc ns xs =>
          obtain ⟨a, dx, C', us, _, _, m3, m4, m5, m6, m7, _⟩ := k2
          rw [m7] at m3; cases m3
        | ownX kk xs =>
          obtain ⟨a, us, _, m2, m3, m4, _⟩ := k2
          rw [m4] at m2; cases m2
        | tree _ => cases o
    rw [z i sl e1 o1, z j t e2 o2]
  · have n1 : b ≠ dl.o := ne_of_none e h1
    have n2 : b ≠ dl.ox := ne_of_none e h2
    rw [upd_ne n1, upd_ne n2]; exact e
  · by_cases n1 : b = dl.o
    · rw [n1]; exact h1
    · rw [upd_ne n1] at e
      by_cases n2 : b = dl.ox
      · rw [n2]; exact h2
      · rw [upd_ne n2] at e; exact e
theorem ifn_of {P : Program} {w : World} {K : PySem.W.Frag} {mg : Str → Option Value} {base : Heap} {x qual c : Str} {st : Stmt} {f : Addr} {fd : FuncData} {N ps : List Str} {k n : Nat} {b : SS} {dvs : List V} {kws : List (Str × V)} (F : FunD K x qual (defArgs st) (defBody st) (defScope st) dvs kws f fd) (S : FnScope N ps (defScope st)) (hn : ps.length = n + 1)
    (hb : ∀ (cdv : Value) (A : Around) (outer : List Env) (s : Shared) (H : Hp) (E : XK) (dl : Dr), Room k (cxOf (L2.CX P w) P w K mg base N qual (defScope st) f cdv A outer s H E).A →
      Takes (cxOf (L2.CX P w) P w K mg base N qual (defScope st) f cdv A outer s H E) (fun cls d _ H => E cls d H) →
      PassesOwn (model P w) (cxOf (L2.CX P w) P w K mg base N qual (defScope st) f cdv A outer s H E).A (cxOf (L2.CX P w) P w K mg base N qual (defScope st) f cdv A outer s H E).env (cxOf (L2.CX P w) P w K mg base N qual (defScope st) f cdv A outer s H E).xe →
      DSs (cxOf (L2.CX P w) P w K mg base N qual (defScope st) f cdv A outer s H E) dl (fun cls d _ H => E cls d H) (defBody st) b) :
    FnOk P w K mg base (L2.CX P w) (k + 1) f fd ps (spI K mg c n (runI c N.length b)) := by
  have hN : N.length ≥ 1 := by
    have := congrArg List.length S.pre
    rw [List.length_take, hn] at this
    omega
  refine F.ok S (fun vs H Q E h => ?_) fun cdv A outer s H vs Q E hr h => ?_
  · obtain ⟨dl, Fz, H1, ds, ws, s0, C, rfl, hl, _⟩ := h
    rw [List.length_cons, hl, hn]
  obtain ⟨dl, Fz, H1, ds, ws, s0, C, rfl, hl, hc, wd, n1, n2, ne, rfl, rp, go⟩ := h
  refine ⟨_, hb cdv A outer s _ E dl hr (takes_of rfl rfl rfl rfl) (passes_of rfl), ?_⟩
  have w2 : Wd dl Fz (upd (upd H1 dl.ox (.own dl.o)) dl.o (.ins C dl.ox [])) s0 := (wd.newO n2).newO (by rw [upd_ne (Ne.symm ne)]; exact n1)
  refine ⟨Fz, H1, Fz, startI c N.length ds, s0, w2, sim_startI hN wd n1 n2 ne hc rp, ?_⟩
  unfold runI bnd at go
  cases e : b (startI c N.length ds) s0 with
  | none => rw [e] at go; exact go
  | some p =>
    obtain ⟨r, s1⟩ := p
    rw [e] at go
    cases r with
    | err x => exact fun F' H' sg' cls d st w xr => go F' H' cls d st w xr
    | ok o =>
      cases o with
      | brk G => exact go.elim
      | cont G => exact go.elim
      | ret d => exact go.elim
      | next G =>
        intro F' H' sg' sm w S
        cases eg : G[0]? with
        | none => simp only [eg] at go; exact go.elim
        | some o =>
          cases o with
          | none => simp only [eg] at go; exact go.elim
          | some sl =>
            cases sl with
            | fz _ => simp only [eg] at go; exact go.elim
            | own _ => simp only [eg] at go; exact go.elim
            | ownX _ _ => simp only [eg] at go; exact go.elim
            | tree _ => simp only [eg] at go; exact go.elim
            | ini c' ns xs =>
              simp only [eg] at go
              by_cases ec : c' = c
              case neg => rw [if_neg ec] at go; exact go.elim
              rw [if_pos ec] at go
              subst ec
              obtain ⟨v, k1, a, dx, C', us, rfl, m2, m3, m4, m5, m6, m7, m8, m9, m10, m11, ⟨m12, rfl, rfl⟩, m13⟩ := S.sl 0 _ eg
              have m2 : mg c' = some (.ref C') := m2
              rw [hc] at m2
              cases m2
              exact go F' H' S.st w us m3 m4 m5 m6 m11 m13

section
variable {X : Cx} {dl : Dr} {W : WX} {pos pos' p2 : Pos} {F0 H0 F H : Hp} {E : Ends} {e : Expr} {f : SE}
def sFldI (nm : Str) (f : SE) : SS := fun G => match (G[0]? : Option (Option Sl)) with
  | some (some (.ini c ns xs)) => bnd (f G) fun d => if ns.contains nm = false ∧ ns.length < 900 then ret (.next (G.set 0 (some (.ini c (ns ++ [nm]) (xs ++ [d]))))) else fail
  | _ => fail
theorem putF_new {nm : Str} {v : V} : ∀ {ns : List Str} {vs : List V}, ns.contains nm = false → ns.length = vs.length → putF nm v (ns.zip vs) = (ns ++ [nm]).zip (vs ++ [v])
  | [], [], _, _ => rfl
  | n :: ns, u :: vs, h, hl => by
    rw [List.contains_cons, Bool.or_eq_false_iff] at h
    rw [List.zip_cons_cons]
    unfold putF
    have ne : n ≠ nm := fun z => by
      subst z
      simp at h
    rw [if_neg ne, putF_new h.2 (by simpa using hl)]
    rfl
  | [], _ :: _, _, hl => by simp at hl
  | _ :: _, [], _, hl => by simp at hl
theorem Sim.setIni {sg : L2.St} {G : Sls} {c : Str} {C : Addr} {ns ns' : List Str} {xs xs' : List D} {us' : List V} (S : Sim X.K X.mg dl F0 H0 F H sg G) (ei : G[0]? = some (some (.ini c ns xs))) (hc : X.mg c = some (.ref C)) (h9 : ns'.length ≤ 900) (hl : ns'.length = us'.length) (h8 : RepL X.K X.mg dl F xs' us') :
    Sim X.K X.mg dl F0 H0 F (upd H dl.o (.ins C dl.ox (ns'.zip us'))) sg (G.set 0 (some (.ini c ns' xs'))) := by
  have hil := get_lt ei
  obtain ⟨v, k1, a, dx, C', us, rfl, m2, m3, m4, m5, m6, m7, m8, m9, m10, m11, ⟨m12, rfl, rfl⟩, m13⟩ := S.sl 0 _ ei
  have nex : dl.ox ≠ dl.o := fun z => by rw [z, m3] at m4; cases m4
  refine ⟨by rw [List.length_set]; exact S.len, fun j t ej => ?_, fun j k t u ej ek o1 o2 e3 => ?_, ⟨S.st.fs, fun b o nb e => ?_, S.st.nw, fun b e => ?_⟩, S.tr.at ei rfl (fun _ z => nomatch z) k1 (fun _ _ z => z) (fun b hb => upd_ne hb) (fun _ _ => rfl)⟩
  · by_cases hij : 0 = j
    · subst hij
      rw [List.getElem?_set_self hil] at ej
      cases ej
      exact ⟨.ref dl.o, k1, dl.o, dl.ox, C, us', rfl, hc, upd_same, by rw [upd_ne nex]; exact m4, m5, m6, m7, m8, m9, m10, hl, ⟨h9, rfl, rfl⟩, h8⟩
    · rw [List.getElem?_set_ne hij] at ej
      obtain ⟨u, q1, q2⟩ := S.sl j t ej
      refine ⟨u, q1, ?_⟩
      have nea : ∀ b, t.isOwn = true → u = .ref b → b ≠ dl.o := fun b ho eu z => by
        subst z; subst eu
        exact hij (S.dis 0 j _ t ei ej rfl ho (k1.trans q1.symm))
      cases t with
      | fz d => exact q2
      | own ys =>
        obtain ⟨b, ws, rfl, r2, r3, r4, r5, r6, r7⟩ := q2
        exact ⟨b, ws, rfl, by rw [upd_ne (nea b rfl rfl)]; exact r2, r3, r4, r5, r6, r7⟩
      | ownX kk ys =>
        obtain ⟨b, ws, rfl, r2, r3, r4, r5, r6, r7, r8⟩ := q2
        exact ⟨b, ws, rfl, by rw [upd_ne (nea b rfl rfl)]; exact r2, r3, r4, r5, r6, r7, r8⟩
      | tree _ => trivial
      | ini cc n2 ys =>
        exfalso
        obtain ⟨b, dx', C2, ws, rfl, r2, r3, r4, r5, r6, r7, r8, r9, r10, r11, ⟨_, rb, _⟩, r13⟩ := q2
        exact nea b rfl rfl rb
  · have nz : ∀ m (t : Sl), (G.set 0 (some (.ini c ns' xs')))[m]? = some (some t) → t.isOwn = true → ∃ t' : Sl, G[m]? = some (some t') ∧ t'.isOwn = true := fun m t e o => by
      by_cases z : 0 = m
      · subst z
        exact ⟨_, ei, rfl⟩
      · rw [List.getElem?_set_ne z] at e
        exact ⟨t, e, o⟩
    obtain ⟨t', a1, a2⟩ := nz j t ej o1
    obtain ⟨u', b1, b2⟩ := nz k u ek o2
    exact S.dis j k t' u' a1 b1 a2 b2 e3
  · rw [upd_ne (ne_of_none e m7)]; exact S.st.hs b o nb e
  · by_cases z : b = dl.o
    · subst z; exact m7
    · rw [upd_ne z] at e; exact S.st.al b e
theorem ds_fldI {c nm x : Str} (h : FldF X.K X.mg c nm) (hv : PE X (.Name x p2) (tVar 0)) (he : DE X dl W e f) (hs : swapsWith e (some (.Attribute (.Name x p2) nm pos')) pos.line X.env = pure false := by rfl) (hcc : ∀ G : Sls, True := by intros; trivial) :
    DSt X dl W (.Assign [.Attribute (.Name x p2) nm pos'] e pos) (fun G => match (G[0]? : Option (Option Sl)) with
      | some (some (.ini c' _ _)) => if c' = c then sFldI nm f G else fail
      | _ => fail) := by
  obtain ⟨C, h1, h2, h3⟩ := h
  refine PS.of (ps_fld hv he hs) fun E sg H q => ?_
  obtain ⟨F0, H0, F, G, s, w, S, g⟩ := q
  cases ei : G[0]? with
  | none => simp only [ei] at g; exact g.elim
  | some o =>
    cases o with
    | none => simp only [ei] at g; exact g.elim
    | some sl =>
      cases sl with
      | fz _ => simp only [ei] at g; exact g.elim
      | own _ => simp only [ei] at g; exact g.elim
      | ownX _ _ => simp only [ei] at g; exact g.elim
      | tree _ => simp only [ei] at g; exact g.elim
      | ini c' ns xs =>
        simp only [ei] at g
        by_cases ec : c' = c
        case neg => rw [if_neg ec] at g; exact g.elim
        rw [if_pos ec] at g
        subst ec
        simp only [sFldI, ei] at g
        refine ⟨F, F0, H0, G, s, w, S, (g.ex (sg := sg) S.st).imp fun d s1 F1 H1 st1 w1 g1 v rv => ?_⟩
        have S1 := S.step st1
        obtain ⟨u, k1, a, dx, C', us, rfl, m2, m3, m4, m5, m6, m7, m8, m9, m10, m11, ⟨m12, rfl, rfl⟩, m13⟩ := S1.sl 0 _ ei
        rw [h1] at m2
        cases m2
        by_cases hl : ns.contains nm = false ∧ ns.length < 900
        case neg => rw [if_neg hl] at g1; exact g1.elim
        rw [if_pos hl] at g1
        refine ⟨.ref dl.o, k1, dl.o, C, dl.ox, _, rfl, m3, h2, h3, ?_, ?_⟩
        · rw [List.length_zip]
          omega
        rw [putF_new hl.1 m11]
        exact g1 F1 _ sg st1.fs (w1.setO m5 m9) (S1.setIni ei h1 (by rw [List.length_append]; simp; omega) (by simp; omega) (m13.append ⟨v, [], rfl, rv, rfl⟩))
end
structure MkF (P : Program) (w : World) (K : PySem.W.Frag) (mg : Str → Option Value) (base : Heap) (c : Str) (k n : Nat) (m : List D → M (List Str × List D)) : Prop where
  ex : ∃ (C g : Addr) (fd : FuncData) (ps : List Str), mg c = some (.ref C) ∧ Mk K C g ∧ ps.length = n + 1 ∧ Binds K fd ps [] ∧ FnOk P w K mg base (L2.CX P w) k g fd ps (spI K mg c n m)
section
variable {X : Cx} {dl : Dr} {W : WX} {pos p : Pos} {e : Expr} {es : List Expr} {ra : SA}
def gMake (c : Str) (n : Nat) (m : List D → M (List Str × List D)) (ra : SA) : SE := fun G => bnd (ra G) fun ds => if ds.length = n then bnd (m ds) fun r => ret (.obj c r.1 r.2) else fail
theorem de_make {c : Str} {k n : Nat} {m : List D → M (List Str × List D)} (h : MkF X.prog X.w X.K X.mg X.base c k n m) (hr : Room (k + 1) X.A) (tk : Takes X W) (hW : ∀ cl d sg sg' H, W cl d sg H → W cl d sg' H) (ha : DA X dl W (e :: es) ra) (hg : Gl X c := by rfl)
    (hdb : (c == ("__debug__" : Str)) = false := by decide) (he : starEach (e :: es) X.env = (false, eval e X.env) :: starEach es X.env := by rfl) (hpl : (backTo pos (starEach es X.env)).any (·.1) = false := by rfl) :
    DE X dl W (.Call (.Name c p) (e :: es) [] pos) (gMake c n m ra) := by
  obtain ⟨C, g, fd, ps, h1, h2, h3, h4, h5⟩ := h.ex
  refine PE.of (pe_make (E := fun cl d H => ∀ sg, W cl d sg H) h2 h5 hr hg h1 h4 .nil (passes_call tk fun cl d sg H z => z sg) ha hdb he hpl) fun sg H Q q => ?_
  obtain ⟨F, F0, H0, G, s, w, S, g⟩ := q
  refine ⟨F, F0, H0, G, s, w, S, g.bnd.imp fun ds s1 F1 H1 st1 w1 g1 vs rvs x dx nx ndx ne => ?_⟩
  by_cases hl : ds.length = n
  case neg => rw [if_neg hl] at g1; exact g1.elim
  rw [if_pos hl] at g1
  have hd : (Dr.mk dl.a dl.w dl.c x dx dl.tabs).a = dl.a ∧ (Dr.mk dl.a dl.w dl.c x dx dl.tabs).w = dl.w ∧ (Dr.mk dl.a dl.w dl.c x dx dl.tabs).c = dl.c ∧ (Dr.mk dl.a dl.w dl.c x dx dl.tabs).tabs = dl.tabs := ⟨rfl, rfl, rfl, rfl⟩
  have hd' : dl.a = (Dr.mk dl.a dl.w dl.c x dx dl.tabs).a ∧ dl.w = (Dr.mk dl.a dl.w dl.c x dx dl.tabs).w ∧ dl.c = (Dr.mk dl.a dl.w dl.c x dx dl.tabs).c ∧ dl.tabs = (Dr.mk dl.a dl.w dl.c x dx dl.tabs).tabs := ⟨rfl, rfl, rfl, rfl⟩
  refine ⟨Dr.mk dl.a dl.w dl.c x dx dl.tabs, F1, H1, ds, vs, s1, C, by rw [List.append_nil], by rw [← rvs.length, hl], h1, w1.toDl hd, nx, ndx, ne, rfl, RepL.dl hd'.1 _ _ rvs, ?_⟩
  have g2 := Go.at (F1 := F1) (H1 := H1) Step.refl g1
  cases er : m ds s1 with
  | none => rw [er] at g2; exact g2
  | some pr =>
    obtain ⟨r, s2⟩ := pr
    rw [er] at g2
    cases r with
    | err xx =>
      intro F' H' cl d st wd xr sg'
      refine hW cl d sg sg' H' (g2 F' H' cl d (st.toDl hd') (wd.toDl hd') ?_)
      obtain ⟨C0, x1, x2, x3⟩ := xr
      refine ⟨C0, x1, x2, ?_⟩
      rcases x3 with x3 | ⟨x3, a, ws, y1, y2, y3, y4⟩
      · exact .inl x3
      · exact .inr ⟨x3, a, ws, y1, y2, y3, RepL.dl hd.1 _ _ y4⟩
    | ok r =>
      intro F' H' st wd us o1 o2 f1 f2 hlen rp
      have st' : Step dl F1 H1 F' H' := st.toDl hd'
      have wd' : Wd dl F' H' s2 := wd.toDl hd'
      have g3 := g2 F' H' st' wd'
      have o1 : H' x = some (.ins C dx (r.1.zip us)) := o1
      have o2 : H' dx = some (.own x) := o2
      have f1 : F' x = none := f1
      have f2 : F' dx = none := f2
      have nhx : ¬ dl.has x := w1.na nx
      have nhdx : ¬ dl.has dx := w1.na ndx
      have f1' : (upd F' dx (.own x)) x = none := by rw [upd_ne (Ne.symm ne)]; exact f1
      have w3 := (wd'.freeze o2 f2 nhdx).freeze o1 f1' nhx
      have sm1 : Same F' (upd F' dx (.own x)) := Same.updN f2
      have sm2 : Same (upd F' dx (.own x)) (upd (upd F' dx (.own x)) x (.ins C dx (r.1.zip us))) := Same.updN f1'
      have smA : Same F' (upd (upd F' dx (.own x)) x (.ins C dx (r.1.zip us))) := fun b o e => sm2 b o (sm1 b o e)
      refine ⟨rfl, g3 _ H' ⟨fun b o e => smA b o (st'.fs b o e), st'.hs, fun b o e => ?_, st'.al⟩ w3 _ ⟨x, dx, C, us, rfl, h1, upd_same, by rw [upd_ne ne]; exact upd_same, hlen, RepL.mono smA _ _ (RepL.dl hd.1 _ _ rp)⟩⟩
      by_cases z1 : b = x
      · exact .inr (by rw [z1]; exact nx)
      · rw [upd_ne z1] at e
        by_cases z2 : b = dx
        · exact .inr (by rw [z2]; exact ndx)
        · rw [upd_ne z2] at e; exact st'.nw b o e
end
end EK


namespace EK
open PySem PySem.Spec PyProof.Rows L2
section
variable (X : Cx) (dl : Dr)
def rDM (g : D → D → M D) : R2 := fun x y H Q => ∃ (F : Hp) (s : DS) (a b : D), Wd dl F H s ∧ Rep X.K X.mg dl F a x ∧ Rep X.K X.mg dl F b y ∧ Go X.mg X.K dl (fun _ _ _ => False) F H (g a b s) fun d _ F' H' => ∀ v, Rep X.K X.mg dl F' d v → Q v H'
def rUM (g : D → M D) : V → Hp → VK → Prop := fun x H Q => ∃ (F : Hp) (s : DS) (a : D), Wd dl F H s ∧ Rep X.K X.mg dl F a x ∧ Go X.mg X.K dl (fun _ _ _ => False) F H (g a s) fun d _ F' H' => ∀ v, Rep X.K X.mg dl F' d v → Q v H'
def rCM (g : List D → M D) : List V → Hp → VK → Prop := fun xs H Q => ∃ (F : Hp) (s : DS) (ds : List D), Wd dl F H s ∧ RepL X.K X.mg dl F ds xs ∧ Go X.mg X.K dl (fun _ _ _ => False) F H (g ds s) fun d _ F' H' => ∀ v, Rep X.K X.mg dl F' d v → Q v H'
end
def g2M (g : D → D → M D) (fa fb : SE) : SE := fun G => bnd (fa G) fun a => bnd (fb G) fun b => noErr (g a b)
def g1M (g : D → M D) (fa : SE) : SE := fun G => bnd (fa G) fun a => noErr (g a)
def gCM (g : List D → M D) (fa : SA) : SE := fun G => bnd (fa G) fun ds => noErr (g ds)
section
variable {X : Cx} {dl : Dr} {W : WX} {a b e : Expr} {fa fb : SE} {pos p : Pos} {g g' : D → D → M D}
/-- the def of the class c for the special name m, run at level k: with n arguments behind self -/
structure OpF (P : Program) (w : World) (K : PySem.W.Frag) (mg : Str → Option Value) (base : Heap) (c m : Str) (k n : Nat) (fm : List D → M D) : Prop where
  ex : ∃ (C g : Addr) (fd : FuncData) (ps : List Str), mg c = some (.ref C) ∧ Cls K C ∧ PySem.W.findIn K (.ref C) m = some (some (.ref g)) ∧ PySem.W.isFn K (.ref g) = true ∧ PySem.W.selfFirst K C = true ∧ ps.length = n + 1 ∧ Binds K fd ps [] ∧ FnOk P w K mg base (L2.CX P w) k g fd ps (spD K mg (n + 1) fm)
def both (c : Str) (x y : D) : Bool := isC c x && isC c y
def opC (c : Str) (fm : List D → M D) : D → D → M D := fun x y => if both c x y then fm [x, y] else fail
/-- the negation of what an == says -/
def negM (m : M D) : M D := bnd m fun d => ofO ((asB d).map fun k => .bl (!k))
/-- what != asks of the class besides -/
def NeF (K : PySem.W.Frag) (mg : Str → Option Value) (c : Str) : Prop := ∃ C, mg c = some (.ref C) ∧ PySem.W.findIn K (.ref C) "__ne__" = some (some (.builtin "object.__ne__")) ∧ PySem.W.subIn K (.ref C) (.type "object") = some true
/-- ~x -/
def unC (c : Str) (fm : List D → M D) : D → M D := fun x => if isC c x then fm [x] else fail
end
end EK


namespace EK
open PySem PySem.Spec PyProof.Rows L2
section
variable {prog : Program} {w : World} {A : Around} {E : Value → Shared → Prop} {s : Shared}
end

def pD (d : D) : PyData := (toP d).getD .none
def tupNE : PyData → Bool
  | .tuple (_ :: _) => true
  | _ => false
def notTN : PyData → Bool
  | .tuple _ => false
  | .none => false
  | _ => true
/-- data that can be put in order -/
def canSort (ds : List D) : Bool := ds.all (fun d => (toP d).isSome) && (ds.all (fun a => ds.all fun b => PySem.W.alike (pD a) (pD b)) && ((ds.all (fun d => tupNE (pD d)) || ds.all (fun d => notTN (pD d))) && ds.all fun d => decide ((pD d).depth ≤ 60)))
def sortL (ds : List D) : List D := ds.mergeSort (PySem.W.dataLe false pD)
def sortedD : List D → Option D
  | [d] => (itemsTL d).bind fun ds => if canSort ds then some (.lst (sortL ds)) else none
  | _ => none
section
variable {X : Cx} {dl : Dr} {W : WX}
def isNone : PyData → Bool
  | .none => true
  | _ => false
def ordD (g : PyData → PyData → Bool) : D → D → Option D := fun a b => (toP a).bind fun p => (toP b).bind fun q => if (PySem.W.alike p q && (decide (p.depth ≤ 60) && !isNone p)) = true then some (.bl (g p q)) else none
theorem ordD_some {g : PyData → PyData → Bool} {a b d : D} (h : ordD g a b = some d) : ∃ p q, toP a = some p ∧ toP b = some q ∧ PySem.W.alike p q = true ∧ p.depth ≤ 60 ∧ p ≠ .none ∧ d = .bl (g p q) := by
  unfold ordD at h
  cases e1 : toP a with
  | none => rw [e1] at h; cases h
  | some p =>
    rw [e1] at h
    cases e2 : toP b with
    | none => rw [e2] at h; cases h
    | some q =>
      rw [e2] at h
      simp only [Option.bind_some] at h
      split at h
      · rename_i hc
        cases h
        obtain ⟨h1, h2⟩ := Bool.and_eq_true_iff.mp hc
        obtain ⟨h3, h4⟩ := Bool.and_eq_true_iff.mp h2
        exact ⟨p, q, rfl, rfl, h1, of_decide_eq_true h3, fun z => by subst z; simp [isNone] at h4, rfl⟩
      · cases h
theorem od_ord {op : CmpOp} {g : PyData → PyData → Bool} (hu : X.A.units + 64 < cLine)
    (rule : ∀ (A : Around) (E : Value → Shared → Prop) (s : Shared) (a b : Value) (da db : PyData) (as bs : List Addr) (Q : Value → Shared → Prop), Reads s.heap a da as → Reads s.heap b db bs → PySem.W.alike da db = true → da ≠ .none → A.units + min da.depth db.depth < cLine → Q (.bool (g da db)) s → wpAny (model X.prog X.w) A (compareOp op a b) Q E s) :
    OpR X (compareOp op) (rD X dl (ordD g)) := by
  intro pins s sg H x y v u Q I rx ry q
  obtain ⟨F, st, a, b, d, w, ra, rb, e, k⟩ := q
  obtain ⟨p, q, h1, h2, h3, h4, h5, rfl⟩ := ordD_some e
  obtain ⟨as, r1⟩ := Dp.reads I p x v (dp_of w.sub _ _ _ ra h1) rx
  obtain ⟨bs, r2⟩ := Dp.reads I q y u (dp_of w.sub _ _ _ rb h2) ry
  exact rule _ _ _ _ _ _ _ _ _ _ r1 r2 h3 h5 (by have : min p.depth q.depth ≤ p.depth := Nat.min_le_left _ _; omega) ⟨.bl _, H, I, rfl, k F H _ Step.refl w rfl⟩
def ltP := ordD fun p q => PySem.W.dataLt p q
def gtP := ordD fun p q => PySem.W.dataLt q p
def leP := ordD fun p q => !PySem.W.dataLt q p
def geP := ordD fun p q => !PySem.W.dataLt p q
theorem od_leP (hu : X.A.units + 64 < cLine) : OpR X (compareOp .LtE) (rD X dl leP) := od_ord hu fun _ _ _ _ _ _ _ _ _ _ r1 r2 h1 h2 h3 h4 => PySem.W.le_data r1 r2 h1 h2 h3 h4
end
end EK


namespace EK
open PySem PySem.Spec PyProof.Rows L2
/-- the texts that d holds -/
def txt : D → Option Str
  | .str x => some x
  | _ => none
def txts (d : D) : Option (List Str) := (itemsTL d).bind fun ds => ds.mapM txt
def setD (g : List Str → Option D) (d : D) : Option D := (txts d).bind fun xs => if xs.length + 1 < 4096 then g (dedupK xs) else none
def lenS (xs : List Str) : Option D := some (.int xs.length)
def sortS (xs : List Str) : List Str := xs.mergeSort (PySem.W.dataLe false PyData.str)
def sortedS (xs : List Str) : Option D := some (.lst ((sortS xs).map D.str))

section
variable {X : Cx} {dl : Dr} {W : WX}
variable (X dl) in
def SetCall (f : String) (g : List Str → Option D) : Prop := ∀ (pins : List (Addr × Obj)) (s : Shared) (sg : L2.St) (H : Hp) (ks : List Str) (a : Addr) (Q : VK), Inv X pins sg H s → SetG (PySem.strKind X.prog X.w) s.heap a ks → ks.length < 4096 →
  (∃ (F : Hp) (st : DS) (d : D), Wd dl F H st ∧ g ks = some d ∧ ∀ F' H' v, Step dl F H F' H' → Wd dl F' H' st → Rep X.K X.mg dl F' d v → Q v H') → wpAny (model X.prog X.w) X.A (call (.builtin f) [.ref a]) (EP X pins sg Q) X.xe s
theorem repL_strs' {K : PySem.W.Frag} {mg : Str → Option Value} {F : Hp} : ∀ {xs : List Str}, RepL K mg dl F (xs.map D.str) (xs.map V.str)
  | [] => rfl
  | x :: xs => ⟨_, _, rfl, rfl, repL_strs'⟩
end
end EK


namespace EK
open PySem PySem.Spec PyProof.Rows L2
/-- the slots that never change -/
def fzS : Option Sl → Option Sl
  | some (.fz d) => some (.fz d)
  | _ => none
def fzG (G : Sls) : Sls := G.map fzS
theorem fzG_some {G : Sls} {i : Nat} {x : Sl} (h : (fzG G)[i]? = some (some x)) : ∃ d, x = .fz d ∧ G[i]? = some (some (.fz d)) := by
  unfold fzG at h
  rw [List.getElem?_map] at h
  cases e : G[i]? with
  | none => rw [e] at h; cases h
  | some o =>
    rw [e] at h
    cases o with
    | none => simp [fzS] at h
    | some s =>
      cases s with
      | fz d => simp [fzS] at h; exact ⟨d, h.symm, rfl⟩
      | _ => simp [fzS] at h
section
variable {K : PySem.W.Frag} {mg : Str → Option Value} {dl : Dr} {F0 H0 F H F' H' : Hp} {sg : L2.St} {G : Sls}
theorem Sim.fz (S : Sim K mg dl F0 H0 F H sg G) (e : Same F F') (st : Step dl F0 H0 F' H') : Sim K mg dl F0 H0 F' H' sg (fzG G) := by
  refine ⟨by rw [fzG, List.length_map]; exact S.len, fun i s h => ?_, fun i j s t h1 h2 o1 => ?_, st, Trs.no fun i t e => by
    obtain ⟨d, z, _⟩ := fzG_some e
    cases z⟩
  · obtain ⟨d, rfl, h1⟩ := fzG_some h
    obtain ⟨v, h2, h3⟩ := S.sl i _ h1
    exact ⟨v, h2, Rep.mono e d v h3⟩
  · obtain ⟨d, rfl, _⟩ := fzG_some h1
    cases o1
end
/-- the items of the second clause's source for each of the first's -/
def lc2M (vs1 : List Nat) (f : SG) (u : ST) (it1 : SA) (f1 : SG) (u1 : ST) (h : SE) (G : Sls) : List D → M (List D)
  | [] => ret []
  | d :: ds => bnd (ofO (f G d)) fun G' => bnd (u G') fun k =>
      if k then bnd (it1 G') fun es => bnd (ofO (if es.length ≤ 1000 then some () else none)) fun _ => bnd (lcM f1 u1 h (wipeG (fzG G') vs1) es) fun r => bnd (lc2M vs1 f u it1 f1 u1 h G ds) fun r' => ret (r ++ r')
      else lc2M vs1 f u it1 f1 u1 h G ds
def gLc2 (vs vs1 : List Nat) (it : SA) (f : SG) (u : ST) (it1 : SA) (f1 : SG) (u1 : ST) (h : SE) : SA := fun G => bnd (it G) fun ds => bnd (ofO (if ds.length ≤ 1000 then some () else none)) fun _ => noErr (lc2M vs1 f u it1 f1 u1 h (wipeG G vs) ds)
section
variable {X : Cx} {dl : Dr} {W : WX}
end
end EK


namespace EK
open PySem PySem.Spec PyProof.Rows L2
section
variable {X : Cx} {dl : Dr} {W : WX} {e : Expr} {fe : SE} {p pos : Pos}
structure IsiT (K : PySem.W.Frag) (mg : Str → Option Value) (c : Str) (us : List Value) (b : Bool) : Prop where
  ex : ∃ C, mg c = some (.ref C) ∧ Cls K C ∧ PySem.W.findIn K (.ref C) "__class__" = some (some (.builtin "object.__class__")) ∧ PySem.W.specialIn K (.builtin "object.__class__") "__get__" = some (some (.builtin "getset_descriptor.__get__")) ∧
    PySem.W.takesIn K (.builtin "object.__class__") = some true ∧ PySem.W.mroIn K C (.type "object") = some true ∧ PySem.W.kitAny K (.ref C) us = some b
end
end EK


namespace EK
open PySem PySem.Spec PyProof.Rows L2
section
variable {X : Cx} {dl : Dr} {W : WX} {elt tg iter tg1 iter1 : Expr} {ifs ifs1 : List Expr} {scope : Scope} {own : List (Str × Nat)} {vs1 : List Nat} {it it1 : SA} {is is1 : List Nat} {f f1 : SG} {u u1 : ST} {h : SE} {pos py spos : Pos} {y : Str}
end
end EK


namespace EK
open PySem PySem.Spec PyProof.Rows L2
def ownAt (G : Sls) (i : Nat) : Option (List D) := match G[i]? with
  | some (some (.own ds)) => some ds
  | _ => none
/-- x[e], x an own list -/
def ixO (ds : List D) : D → Option D
  | .int k => atI ds k
  | _ => none
def gIxO (i : Nat) (f : SE) : SE := fun G => bnd (ofO (ownAt G i)) fun ds => bnd (f G) fun j => ofO (ixO ds j)
/-- x[e1] = e2 -/
def setO (ds : List D) (d : D) : D → Option (List D)
  | .int k => (ixN ds.length k).map fun n => ds.set n d
  | _ => none
def sSetO (i : Nat) (fj fe : SE) : SS := fun G => bnd (ofO (ownAt G i)) fun ds => bnd (fe G) fun d => bnd (fj G) fun j => bnd (ofO (setO ds d j)) fun ds' => ret (.next (G.set i (some (.own ds'))))
section
variable {X : Cx} {dl : Dr} {W : WX} {e b : Expr} {f fe : SE} {pos p p' : Pos} {x : Str}
end
end EK


namespace EK
open PySem PySem.Spec PyProof.Rows L2
section
variable (X : Cx) (dl : Dr) (W : WX)
/-- a fresh dict at a, not among what never changes -/
def NewX (H : Hp) (k : OK) (ds : List D) (F' H' : Hp) (a : Addr) : Prop := H a = none ∧ F' a = none ∧ ∃ vs, H' a = some (k.ho vs) ∧ k.len = vs.length ∧ (k.len ≤ 1000 ∧ k.nd) ∧ RepL X.K X.mg dl F' ds vs
/-- what a slot may hold behind an evaluation: a value that never changes, or a new list of one's own -/
def NewT (H : Hp) (t : T) (F' H' : Hp) (v : V) : Prop := ∃ as, TR X.K X.mg dl F' H' t v as ∧ as.Nodup ∧ ∀ a ∈ as, H a = none ∧ F' a = none
def NewSl (H F' H' : Hp) : Sl → V → Prop
  | .fz d, v => Rep X.K X.mg dl F' d v
  | .own ds, v => ∃ a, v = .ref a ∧ NewL X dl H ds F' H' a
  | .ini _ _ _, _ => False
  | .ownX k ds, v => ∃ a, v = .ref a ∧ NewX X dl H k ds F' H' a
  | .tree t, v => NewT X dl H t F' H' v
def tSl (f : Sls → M Sl) : TE := fun sg H Q => ∃ F, tGF X dl W F f (fun sl F' H' => ∀ v, NewSl X dl H F' H' sl v → Q v H') sg H
abbrev DES (e : Expr) (f : Sls → M Sl) : Prop := PE X e (tSl X dl W f)
end
def slF (f : SE) : Sls → M Sl := fun G => bnd (f G) fun d => ret (.fz d)
def slO (f : SA) : Sls → M Sl := fun G => bnd (f G) fun ds => ret (.own ds)
def sPar (i j : Nat) (f g : Sls → M Sl) : SS := fun G => bnd (f G) fun a => bnd (g G) fun b => ret (.next ((G.set i (some a)).set j (some b)))
def sPar3 (i j l : Nat) (f g h : Sls → M Sl) : SS := fun G => bnd (f G) fun a => bnd (g G) fun b => bnd (h G) fun c => ret (.next (((G.set i (some a)).set j (some b)).set l (some c)))
section
variable {X : Cx} {dl : Dr} {W : WX} {e : Expr} {F0 H0 F H F1 H1 : Hp} {sg : L2.St} {G : Sls} {i : Nat} {sl : Sl} {v : V} {pos : Pos}
theorem des_fz {f : SE} (h : DE X dl W e f) : DES X dl W e (slF f) := by
  refine PE.of h fun sg H Q q => ?_
  obtain ⟨F, F0, H0, G, s, w, S, g⟩ := q
  refine ⟨F, F0, H0, G, s, w, S, (Go.at Step.refl g).imp fun d s1 F1 H1 st1 w1 g1 v rv => ?_⟩
  exact g1 F1 H1 st1 w1 v rv
section
variable {F0 H0 F H F1 H1 : Hp}
theorem Sim.putTree {sg : L2.St} {G : Sls} {s : DS} {t : T} {v : V} {i : Nat} (S : Sim X.K X.mg dl F0 H0 F H sg G) (w : Wd dl F H s) (st : Step dl F H F1 H1) (h : NewT X dl H t F1 H1 v) : Sim X.K X.mg dl F0 H0 F1 H1 (sg.set i (some v)) (G.set i (some (.tree t))) := by
  have S1 := S.step st
  obtain ⟨as, h1, h2, h3⟩ := h
  have old : ∀ (j : Nat) (u : Sl), (G.set i (some (.tree t)))[j]? = some (some u) → (i = j ∧ u = .tree t ∧ i < G.length) ∨ (i ≠ j ∧ G[j]? = some (some u)) := fun j u e => by
    by_cases z : i = j
    · subst z
      by_cases q : i < G.length
      · rw [List.getElem?_set_self q] at e
        cases e
        exact .inl ⟨rfl, rfl, q⟩
      · rw [List.getElem?_set] at e
        simp [q] at e
    · rw [List.getElem?_set_ne z] at e
      exact .inr ⟨z, e⟩
  refine ⟨by rw [List.length_set, List.length_set]; exact S.len, fun j u ej => ?_, fun j k u u' e1 e2 o1 o2 e3 => ?_, S1.st, ?_⟩
  · rcases old j u ej with ⟨rfl, rfl, q⟩ | ⟨z, z2⟩
    · exact ⟨v, List.getElem?_set_self (by rw [← S.len]; exact q), trivial⟩
    · rw [List.getElem?_set_ne z]
      exact S1.sl j u z2
  · rcases old j u e1 with ⟨rfl, rfl, q⟩ | ⟨z, z2⟩
    · cases o1
    rcases old k u' e2 with ⟨rfl, rfl, q⟩ | ⟨y, y2⟩
    · cases o2
    rw [List.getElem?_set_ne z, List.getElem?_set_ne y] at e3
    exact S.dis j k u u' z2 y2 o1 o2 e3
  · obtain ⟨fp, T1⟩ := S1.tr
    refine ⟨fun j => if j = i then as else fp j, fun j u ej => ?_, fun j k u u' e1 e2 hjk a ha => ?_, fun j k u s' a e1 e2 o es => ?_⟩
    · rcases old j _ ej with ⟨rfl, q, q2⟩ | ⟨z, z2⟩
      · cases q
        simp only [if_true]
        exact ⟨v, List.getElem?_set_self (by rw [← S.len]; exact q2), h1, h2, fun a ha => ⟨(h3 a ha).2, S.st.al a (h3 a ha).1, w.na (h3 a ha).1⟩⟩
      · rw [List.getElem?_set_ne z, if_neg (Ne.symm z)]
        exact T1.at_ j u z2
    · rcases old j _ e1 with ⟨rfl, q, q2⟩ | ⟨z, z2⟩
      · simp only [if_true] at ha
        rcases old k _ e2 with ⟨rfl, q, q2⟩ | ⟨y, y2⟩
        · exact absurd rfl hjk
        · rw [if_neg (Ne.symm y)]
          exact S.notTr st (h3 a ha).1 fp T1 k u' y2
      · rw [if_neg (Ne.symm z)] at ha
        rcases old k _ e2 with ⟨rfl, q, q2⟩ | ⟨y, y2⟩
        · simp only [if_true]
          exact fun q => S.notTr st (h3 a q).1 fp T1 j u z2 ha
        · rw [if_neg (Ne.symm y)]
          exact T1.dj j k u u' z2 y2 hjk a ha
    · rcases old k _ e2 with ⟨rfl, q, q2⟩ | ⟨y, y2⟩
      · subst q; cases o
      rw [List.getElem?_set_ne y] at es
      rcases old j _ e1 with ⟨rfl, q, q2⟩ | ⟨z, z2⟩
      · simp only [if_true]
        exact fun q => S.notAt (F1 := F1) (H1 := H1) (h3 a q).1 k s' y2 o es
      · rw [if_neg (Ne.symm z)]
        exact T1.nx j k u s' a z2 y2 o es
end
/-- into a slot, from the heap before -/
theorem Sim.putNew {s : DS} (S : Sim X.K X.mg dl F0 H0 F H sg G) (w : Wd dl F H s) (st : Step dl F H F1 H1) (h : NewSl X dl H F1 H1 sl v) : Sim X.K X.mg dl F0 H0 F1 H1 (sg.set i (some v)) (G.set i (some sl)) := by
  cases sl with
  | fz d => exact (S.step st).put h
  | own ds =>
    obtain ⟨a, rfl, n1, n2, vs, h1, h2, h3⟩ := h
    exact (S.step st).putOwn (fun j t _ ej o => S.notAt (F1 := F1) (H1 := H1) n1 j t ej o) (S.notTr st n1) h1 n2 (S.st.al a n1) (w.na n1) h2 h3
  | ini _ _ _ => exact h.elim
  | ownX k ds =>
    obtain ⟨a, rfl, n1, n2, vs, h1, h2, h3, h4⟩ := h
    exact (S.step st).putX (fun j t _ ej o => S.notAt (F1 := F1) (H1 := H1) n1 j t ej o) (S.notTr st n1) h1 n2 (S.st.al a n1) (w.na n1) h2 h3 h4
  | tree t => exact S.putTree w st h
theorem ds_par (i j : Nat) {x y : Str} {a b : Expr} {f g : Sls → M Sl} {px py pt : Pos} {kt k2 : Nat} {pt2 : Pos} (hc : X.calm = true) (hN : X.N.Nodup) (ha : DES X dl W a f) (hb : DES X dl W b g)
    (hi : X.N[i]? = some x := by rfl) (hj : X.N[j]? = some y := by rfl) (hij : i ≠ j := by decide)
    (hx : X.env.scope.names.lookup x = some .local := by rfl) (hy : X.env.scope.names.lookup y = some .local := by rfl)
    (hw : swappedStores [.Tuple [.Name x px, .Name y py] kt pt] (.Tuple [a, b] k2 pt2) X.env = pure (some [x, y]) := by rfl)
    (hs : swapsWithSole [.Tuple [.Name x px, .Name y py] kt pt] (.Tuple [a, b] k2 pt2) pos.line X.env = pure false := by rfl)
    (hs1 : starEach [a, b] X.env = (false, eval a X.env) :: starEach [b] X.env := by rfl) (hs2 : starEach [b] X.env = (false, eval b X.env) :: starEach [] X.env := by rfl) :
    DSt X dl W (.Assign [.Tuple [.Name x px, .Name y py] kt pt] (.Tuple [a, b] k2 pt2) pos) (sPar i j f g) := by
  refine PS.of (ps_par hc hN hi hj hij hx hy (pa_cons ha (pa_cons hb pa_nil hs2) hs1) hw hs) fun E sg H q => ?_
  obtain ⟨F0, H0, F, G, s, w, S, g⟩ := q
  refine ⟨F, F0, H0, G, s, w, S, (g.ex S.st).imp fun a s1 F1 H1 st1 w1 g1 v rv => ?_⟩
  refine ⟨F1, F0, H0, G, s1, w1, S.step st1, ((g1.mono st1.fs).ex (S.step st1).st).imp fun b s2 F2 H2 st2 w2 g2 u ru => ⟨v, u, rfl, ?_⟩⟩
  exact g2 F2 H2 _ st2.fs w2 ((S.putNew w st1 rv).putNew w1 st2 ru)
end
def whM (u : ST) (b : SS) : Nat → Sls → M Out
  | 0, _ => fail
  | n + 1, G => bnd (u G) fun k => if k then bnd (b G) fun o => match o with
    | .next G2 => whM u b n G2
    | .cont G2 => whM u b n G2
    | .brk G2 => ret (.next G2)
    | .ret d => ret (.ret d)
    else ret (.next G)
def sWhile (fuel : Sls → Nat) (u : ST) (b : SS) : SS := fun G => whM u b (fuel G) G
section
variable {X : Cx} {dl : Dr} {W : WX} {pos : Pos}
end
end EK


namespace EK
open PySem PySem.Spec PyProof.Rows L2
def drwAt (G : Sls) (i : Nat) : Bool := match G[i]? with
  | some (some (.fz .drw)) => true
  | _ => false
def gDr {α : Type} (i : Nat) (m : M α) : Sls → M α := fun G => if drwAt G i then m else fail
def restM : M D := fun s => some (.ok (.int s.rest), s)
def turnM : M D := fun s => some (.ok (.int s.turn), s)
def popM : M D := fun s => match s.wide with
  | x :: r => some (.ok (.int x), { s with wide := r })
  | [] => none
def wideM : M Bool := fun s => some (.ok (decide (s.wide ≠ [])), s)
def putM (put : Int → DS → DS) (G : Sls) : D → M Out
  | .int n => fun s => some (.ok (.next G), put n s)
  | _ => fail
def sDr (i : Nat) (put : Int → DS → DS) (f : SE) : SS := fun G => if drwAt G i then bnd (f G) (putM put G) else fail
def putRest (n : Int) (s : DS) : DS := { s with rest := n }
def putTurn (n : Int) (s : DS) : DS := { s with turn := n }
theorem drwAt_sl {K : PySem.W.Frag} {mg : Str → Option Value} {dl : Dr} {F0 H0 F H : Hp} {sg : L2.St} {G : Sls} {i : Nat} (S : Sim K mg dl F0 H0 F H sg G) (h : drwAt G i = true) : sg[i]? = some (some (.ref dl.a)) := by
  unfold drwAt at h
  split at h
  · rename_i e
    obtain ⟨v, h1, h2⟩ := S.sl i _ e
    rw [h1, show v = .ref dl.a from h2]
  · cases h
section
variable {X : Cx} {dl : Dr} {W : WX} {F H : Hp} {s : DS}
theorem Step.dr {b : Addr} {o : HO} (h : dl.has b) (e : ∃ u, H b = some u) : Step dl F H F (upd H b o) :=
  ⟨fun _ _ h => h, fun c u nc e => by rw [upd_ne (fun z => nc (by rw [z]; exact h))]; exact e, fun _ _ h => .inl h, fun c e' => by
    by_cases z : c = b
    · subst z; rw [upd_same] at e'; cases e'
    · rw [upd_ne z] at e'; exact e'⟩
theorem dk_ne {a b : Addr} {x : List (Key × V)} {y : List V} (h1 : H a = some (.dK x)) (h2 : H b = some (.lst y)) : a ≠ b := fun z => by rw [z, h2] at h1; cases h1
theorem wd_rest {n : Int} (w : Wd dl F H s) : Wd dl F (upd H dl.a (.dK [(Sum.inr "wide", .ref dl.w), (Sum.inr "cells", .ref dl.c), (Sum.inr "rest", .int n), (Sum.inr "turn", .int s.turn)])) (putRest n s) := by
  obtain ⟨d1, d2, d3, d4⟩ := w.dr
  refine ⟨fun b u e => ?_, w.off, ⟨upd_same, ?_, ?_, d4⟩, w.tb.upd (fun _ _ e => e) (fun q hq z => by
    obtain ⟨ps, h1, _⟩ := w.tb.at_ q hq
    rw [z, d1] at h1; cases h1) (fun _ z => by cases z) (.inl fun _ _ z => by unfold LamX.CodeO at z; cases z)⟩
  · rw [upd_ne (fun z => by rw [z, w.off _ (.inl rfl)] at e; cases e)]; exact w.sub b u e
  · rw [upd_ne (Ne.symm (dk_ne d1 d2))]; exact d2
  · rw [upd_ne (Ne.symm (dk_ne d1 d3))]; exact d3
theorem wd_turn {n : Int} (w : Wd dl F H s) : Wd dl F (upd H dl.a (.dK [(Sum.inr "wide", .ref dl.w), (Sum.inr "cells", .ref dl.c), (Sum.inr "rest", .int s.rest), (Sum.inr "turn", .int n)])) (putTurn n s) := by
  obtain ⟨d1, d2, d3, d4⟩ := w.dr
  refine ⟨fun b u e => ?_, w.off, ⟨upd_same, ?_, ?_, d4⟩, w.tb.upd (fun _ _ e => e) (fun q hq z => by
    obtain ⟨ps, h1, _⟩ := w.tb.at_ q hq
    rw [z, d1] at h1; cases h1) (fun _ z => by cases z) (.inl fun _ _ z => by unfold LamX.CodeO at z; cases z)⟩
  · rw [upd_ne (fun z => by rw [z, w.off _ (.inl rfl)] at e; cases e)]; exact w.sub b u e
  · rw [upd_ne (Ne.symm (dk_ne d1 d2))]; exact d2
  · rw [upd_ne (Ne.symm (dk_ne d1 d3))]; exact d3
end
section
variable {X : Cx} {dl : Dr} {W : WX} {e : Expr} {f : SE} {pos p q : Pos} {x : Str} {j : Nat}
theorem de_rest (i : Nat) (hu : X.A.units + 64 < cLine) (hN : X.N[i]? = some x := by rfl) (hv : Vis X.env.scope x := by first | exact Or.inl rfl | exact Or.inr (Or.inl rfl) | exact Or.inr (Or.inr rfl))
    (hd : (x == ("__debug__" : Str)) = false := by decide) (hcd : (x == ("__classdict__" : Str)) = false := by decide) : DE X dl W (.Subscript (.Name x p) (.Constant (.str "rest") j q) pos) (gDr i restM) := by
  refine PE.of (pe_dget (by omega) (pe_var hN hv hd hcd) pe_str (fun _ _ => rfl)) fun sg H Q q => ?_
  obtain ⟨F, F0, H0, G, s, w, S, g⟩ := q
  unfold gDr at g
  split at g
  · rename_i h
    exact ⟨.ref dl.a, drwAt_sl S h, dl.a, .int s.rest, rfl, .inl ⟨_, Sum.inr "rest", .inl w.dr.1, rfl, rfl⟩, g F H Step.refl w _ rfl⟩
  · exact g.elim
theorem de_turn (i : Nat) (hu : X.A.units + 64 < cLine) (hN : X.N[i]? = some x := by rfl) (hv : Vis X.env.scope x := by first | exact Or.inl rfl | exact Or.inr (Or.inl rfl) | exact Or.inr (Or.inr rfl))
    (hd : (x == ("__debug__" : Str)) = false := by decide) (hcd : (x == ("__classdict__" : Str)) = false := by decide) : DE X dl W (.Subscript (.Name x p) (.Constant (.str "turn") j q) pos) (gDr i turnM) := by
  refine PE.of (pe_dget (by omega) (pe_var hN hv hd hcd) pe_str (fun _ _ => rfl)) fun sg H Q q => ?_
  obtain ⟨F, F0, H0, G, s, w, S, g⟩ := q
  unfold gDr at g
  split at g
  · rename_i h
    exact ⟨.ref dl.a, drwAt_sl S h, dl.a, .int s.turn, rfl, .inl ⟨_, Sum.inr "turn", .inl w.dr.1, rfl, rfl⟩, g F H Step.refl w _ rfl⟩
  · exact g.elim
theorem ds_rest (i : Nat) {ap : Pos} (hu : X.A.units + 64 < cLine) (he : DE X dl W e f) (hN : X.N[i]? = some x := by rfl) (hv : Vis X.env.scope x := by first | exact Or.inl rfl | exact Or.inr (Or.inl rfl) | exact Or.inr (Or.inr rfl))
    (hd : (x == ("__debug__" : Str)) = false := by decide) (hcd : (x == ("__classdict__" : Str)) = false := by decide) (hs : swapsWith e (some (.Subscript (.Name x p) (.Constant (.str "rest") j q) ap)) pos.line X.env = pure false := by rfl) :
    DSt X dl W (.Assign [.Subscript (.Name x p) (.Constant (.str "rest") j q) ap] e pos) (sDr i putRest f) := by
  refine PS.of (ps_dput (by omega) (pe_var hN hv hd hcd) pe_str he hs) fun E sg H q => ?_
  obtain ⟨F0, H0, F, G, s, w, S, g⟩ := q
  unfold sDr at g
  split at g
  case isFalse => exact g.elim
  rename_i h
  refine ⟨F, F0, H0, G, s, w, S, (g.ex S.st).imp fun d s1 F1 H1 st1 w1 g1 v rv => ?_⟩
  have S1 := S.step st1
  cases d with
  | int n =>
    cases (show v = .int n from rv)
    refine ⟨.ref dl.a, drwAt_sl S1 h, dl.a, _, rfl, .inl ⟨_, Sum.inr "rest", w1.dr.1, rfl, ?_, rfl⟩, ?_⟩
    · show 4 < sizeLine; decide
    · have st2 : Step dl F1 H1 F1 (upd H1 dl.a (.dK [(Sum.inr "wide", .ref dl.w), (Sum.inr "cells", .ref dl.c), (Sum.inr "rest", .int n), (Sum.inr "turn", .int s1.turn)])) := Step.dr (.inl rfl) ⟨_, w1.dr.1⟩
      exact g1 F1 _ sg st1.fs (wd_rest w1) (S1.step st2)
  | _ => exact g1.elim
theorem ds_turn (i : Nat) {ap : Pos} (hu : X.A.units + 64 < cLine) (he : DE X dl W e f) (hN : X.N[i]? = some x := by rfl) (hv : Vis X.env.scope x := by first | exact Or.inl rfl | exact Or.inr (Or.inl rfl) | exact Or.inr (Or.inr rfl))
    (hd : (x == ("__debug__" : Str)) = false := by decide) (hcd : (x == ("__classdict__" : Str)) = false := by decide) (hs : swapsWith e (some (.Subscript (.Name x p) (.Constant (.str "turn") j q) ap)) pos.line X.env = pure false := by rfl) :
    DSt X dl W (.Assign [.Subscript (.Name x p) (.Constant (.str "turn") j q) ap] e pos) (sDr i putTurn f) := by
  refine PS.of (ps_dput (by omega) (pe_var hN hv hd hcd) pe_str he hs) fun E sg H q => ?_
  obtain ⟨F0, H0, F, G, s, w, S, g⟩ := q
  unfold sDr at g
  split at g
  case isFalse => exact g.elim
  rename_i h
  refine ⟨F, F0, H0, G, s, w, S, (g.ex S.st).imp fun d s1 F1 H1 st1 w1 g1 v rv => ?_⟩
  have S1 := S.step st1
  cases d with
  | int n =>
    cases (show v = .int n from rv)
    refine ⟨.ref dl.a, drwAt_sl S1 h, dl.a, _, rfl, .inl ⟨_, Sum.inr "turn", w1.dr.1, rfl, ?_, rfl⟩, ?_⟩
    · show 4 < sizeLine; decide
    · have st2 : Step dl F1 H1 F1 (upd H1 dl.a (.dK [(Sum.inr "wide", .ref dl.w), (Sum.inr "cells", .ref dl.c), (Sum.inr "rest", .int s1.rest), (Sum.inr "turn", .int n)])) := Step.dr (.inl rfl) ⟨_, w1.dr.1⟩
      exact g1 F1 _ sg st1.fs (wd_turn w1) (S1.step st2)
  | _ => exact g1.elim

theorem dpAll_ints {K : PySem.W.Frag} {H : Hp} : ∀ xs : List Int, DpAll K H (xs.map V.int) (xs.map PyData.int)
  | [] => .nil
  | x :: xs => .cons (.int x) (dpAll_ints xs)
theorem shaped_ints (xs : List Int) : SeqAt.shaped (.list (xs.map PyData.int)) = true := by
  have h1 : ∀ xs : List Int, PyData.canLayAll0 (xs.map PyData.int) = true := fun xs => by
    induction xs with
    | nil => rfl
    | cons x xs ih => simp [PyData.canLayAll0, PyData.canLay0, ih]
  have h2 : ∀ xs : List Int, PyData.depthAll (xs.map PyData.int) = 0 := fun xs => by
    induction xs with
    | nil => rfl
    | cons x xs ih => simp [PyData.depthAll, PyData.depth, ih]
  simp [SeqAt.shaped, PyData.canLay0, PyData.depth, h1, h2]
theorem pe_wide (i : Nat) (hu : X.A.units + 64 < cLine) (hN : X.N[i]? = some x := by rfl) (hv : Vis X.env.scope x := by first | exact Or.inl rfl | exact Or.inr (Or.inl rfl) | exact Or.inr (Or.inr rfl))
    (hd : (x == ("__debug__" : Str)) = false := by decide) (hcd : (x == ("__classdict__" : Str)) = false := by decide) (z : Str) : PE X (.Subscript (.Name x p) (.Constant (.str z) j q) pos) (tDGet (tVar i) (tC (.str z))) :=
  pe_dget (by omega) (pe_var hN hv hd hcd) pe_str (fun _ _ => rfl)
theorem de_popW (i : Nat) {ap cp p0 : Pos} {j0 : Nat} (hu : X.A.units + 64 < cLine) (hN : X.N[i]? = some x := by rfl) (hv : Vis X.env.scope x := by first | exact Or.inl rfl | exact Or.inr (Or.inl rfl) | exact Or.inr (Or.inr rfl))
    (hd : (x == ("__debug__" : Str)) = false := by decide) (hcd : (x == ("__classdict__" : Str)) = false := by decide)
    (hbase : attributeBase (.Subscript (.Name x p) (.Constant (.str "wide") j q) pos) "pop" X.env (eval (.Subscript (.Name x p) (.Constant (.str "wide") j q) pos) X.env) = eval (.Subscript (.Name x p) (.Constant (.str "wide") j q) pos) X.env := by rfl)
    (hfew : ((backTo cp (starEach [.Constant (.int 0) j0 p0] X.env)).all (fun x => !x.1) && (backToKw cp (keywordEach [] X.env)).all (fun x => x.1.isSome)
      && decide (([.Constant (.int 0) j0 p0] : List Expr).length + ([] : List Keyword).length + (if ([] : List Keyword).isEmpty then 0 else 1) < 30)) = true := by rfl)
    (hline : (ap.endLine == cp.line) = true := by rfl) :
    DE X dl W (.Call (.Attribute (.Subscript (.Name x p) (.Constant (.str "wide") j q) pos) "pop" ap) [.Constant (.int 0) j0 p0] [] cp) (gDr i popM) := by
  refine PE.of (pe_bm PySem.F.plainAttrs_list PySem.F.slot_list_pop PySem.F.type_list_pop mt_popAt (pe_wide i hu hN hv hd hcd "wide") (pa_cons pe_int pa_nil rfl) hbase hfew hline rfl rfl) fun sg H Q q => ?_
  obtain ⟨F, F0, H0, G, s, w, S, g⟩ := q
  unfold gDr at g
  split at g
  case isFalse => exact g.elim
  rename_i h
  obtain ⟨d1, d2, d3, d4⟩ := w.dr
  refine ⟨.ref dl.a, drwAt_sl S h, dl.a, .ref dl.w, rfl, .inl ⟨_, Sum.inr "wide", .inl d1, rfl, rfl⟩, .inl ⟨rfl, _, SqL.of d2⟩, ?_⟩
  unfold popM at g
  cases ew : s.wide with
  | nil => rw [ew] at g; exact g.elim
  | cons a r =>
    rw [ew] at g d2
    refine ⟨dl.w, _, 0, 0, .int a, rfl, rfl, d2, by decide, by decide, ?_, rfl, ?_⟩
    · simp [seqIndex?]
    · refine g F _ (Step.dr (.inr (.inl rfl)) ⟨_, d2⟩) ⟨fun b u e => ?_, w.off, ⟨?_, ?_, ?_, d4⟩, w.tb.upd (fun _ _ e => e) (fun q hq z => by
        obtain ⟨ps, h1, _⟩ := w.tb.at_ q hq
        rw [z, d2] at h1; cases h1) (fun _ z => by cases z) (.inl fun _ _ z => by unfold LamX.CodeO at z; cases z)⟩ _ rfl
      · rw [upd_ne (fun z => by rw [z, w.off _ (.inr (.inl rfl))] at e; cases e)]; exact w.sub b u e
      · rw [upd_ne (dk_ne d1 d2)]; exact d1
      · exact upd_same
      · rw [upd_ne (Ne.symm d4)]; exact d3
theorem dt_wide (i : Nat) {p1 : Pos} (hu : X.A.units + 64 < cLine) (hN : X.N[i]? = some x := by rfl) (hv : Vis X.env.scope x := by first | exact Or.inl rfl | exact Or.inr (Or.inl rfl) | exact Or.inr (Or.inr rfl))
    (hd : (x == ("__debug__" : Str)) = false := by decide) (hcd : (x == ("__classdict__" : Str)) = false := by decide) {cp : Pos} : DT X dl W (.Compare (.Subscript (.Name x p) (.Constant (.str "wide") j q) pos) [.NotEq] [.List [] p1] cp) (gDr i wideM) := by
  refine PT.of (pt_cmpR (op_neD hu) (pe_wide i hu hN hv hd hcd "wide") (pe_lst pa_nil) rfl) fun sg H Q q => ?_
  obtain ⟨F, F0, H0, G, s, w, S, g⟩ := q
  unfold gDr at g
  split at g
  case isFalse => exact g.elim
  rename_i h
  obtain ⟨d1, d2, d3, d4⟩ := w.dr
  refine ⟨.ref dl.a, drwAt_sl S h, dl.a, .ref dl.w, rfl, .inl ⟨_, Sum.inr "wide", .inl d1, rfl, rfl⟩, Nat.zero_le _, fun l hl => ?_⟩
  have w' := w.newO (o := .lst []) hl
  obtain ⟨e1, e2, e3, e4⟩ := w'.dr
  have e0 : Dp X.K (upd H l (.lst [])) (.ref dl.w) (.list (s.wide.map PyData.int)) := .lst (SqL.of e2) (dpAll_ints _)
  refine ⟨_, .list [], e0, .lst (SqL.of upd_same) .nil, shaped_ints _, by decide, ?_⟩
  have eb : (!PyData.eqv (.list (s.wide.map PyData.int)) (.list [])) = decide (s.wide ≠ []) := by
    cases s.wide <;> simp [PyData.eqv, PyData.eqvAll]
  rw [eb]
  exact ⟨_, rfl, g F _ (Step.newO hl) w'⟩

def cutF (F : Hp) (a : Addr) : Hp := fun b => if b = a then none else F b
theorem cutF_some {F : Hp} {a b : Addr} {o : HO} (h : cutF F a b = some o) : b ≠ a ∧ F b = some o := by
  unfold cutF at h
  by_cases z : b = a
  · rw [if_pos z] at h; cases h
  · rw [if_neg z] at h; exact ⟨z, h⟩
theorem cutF_ne {F : Hp} {a b : Addr} (z : b ≠ a) : cutF F a b = F b := if_neg z
theorem lent {F H F' H' : Hp} {a : Addr} {o : HO} {s : DS} (n : F a = none) (ho : ∀ c q, o ≠ LamX.CodeO c q) (st : Step dl (upd F a o) H F' H') (w : Wd dl F' H' s) : Step dl F H (cutF F' a) H' ∧ Wd dl (cutF F' a) H' s := by
  refine ⟨⟨fun b u e => ?_, st.hs, fun b u e => ?_, st.al⟩, ⟨fun b u e => w.sub b u (cutF_some e).2, fun b hb => ?_, w.dr, by
    have nc : ∀ b c q, F' b = some (LamX.CodeO c q) → b ≠ a := fun b c q e z => by
      subst z
      have y := st.fs b o upd_same
      rw [e] at y
      cases y
      exact ho _ _ rfl
    refine ⟨fun p hp => ?_, w.tb.nt, fun b c q e => ?_⟩
    · obtain ⟨ps, h1, h2, h3⟩ := w.tb.at_ p hp
      refine ⟨ps, h1, h2, fun pos cv hc => ?_⟩
      obtain ⟨c, e1, e2⟩ := h3 pos cv hc
      exact ⟨c, e1, by rw [cutF_ne (nc _ _ _ e2)]; exact e2⟩
    · have e2 := w.tb.cd b c q e
      rw [cutF_ne (nc _ _ _ e2)]; exact e2⟩⟩
  · have z : b ≠ a := ne_of_none e n
    rw [cutF_ne z]
    exact st.fs b u (by rw [upd_ne z]; exact e)
  · obtain ⟨z, e'⟩ := cutF_some e
    rcases st.nw b u e' with h | h
    · rw [upd_ne z] at h; exact .inl h
    · exact .inr h
  · unfold cutF
    split
    · rfl
    · exact w.off b hb
/-- an answer that is no place -/
def flatD : D → Bool
  | .non => true
  | .bl _ => true
  | .int _ => true
  | .str _ => true
  | _ => false
def g2O (g : D → D → Option D) (i : Nat) (fb : SE) : SE := fun G => bnd (ofO (ownAt G i)) fun ds => bnd (fb G) fun y => ofO (g (.lst ds) y)
def g2O' (g : D → D → Option D) (fa : SE) (i : Nat) : SE := fun G => bnd (fa G) fun y => bnd (ofO (ownAt G i)) fun ds => ofO (g y (.lst ds))
variable {b : Expr} {fb : SE} {g : D → D → Option D}
def popO (ds : List D) : D → Option (D × List D)
  | .int k => if 0 ≤ k ∧ k < ds.length ∧ ds.length < 1000000 then (ds[k.toNat]?).map fun d => (d, ds.eraseIdx k.toNat) else none
  | _ => none
/-- slot i takes what slot l gives -/
def sAppPop (i l : Nat) (f : SE) : SS := fun G => bnd (ofO (ownAt G i)) fun as => bnd (ofO (ownAt G l)) fun bs => bnd (f G) fun k => bnd (ofO (popO bs k)) fun r =>
  if as.length < 1000000 then ret (.next ((G.set l (some (.own r.2))).set i (some (.own (as ++ [r.1]))))) else fail
end
end EK


namespace EK
open PySem PySem.Spec PyProof.Rows L2
def sForC (i : Nat) (a : SG) (b : SS) : SS := fun G => if drwAt G i then (fun s => forM a b (s.cells.map D.int) G s) else fail
/-- no state is changed by it -/
def Still (b : SS) : Prop := ∀ G s r s', b G s = some (r, s') → s' = s
section
variable {X : Cx} {dl : Dr} {W : WX} {pos p q : Pos} {x : Str} {j : Nat}
theorem ds_forC (i : Nat) {tg : Expr} {body : List Stmt} {is : List Nat} {a : SG} {b : SS} {p0 : Pos} (hu : X.A.units + 64 < cLine) (hp : PassesOwn (model X.prog X.w) X.A X.env X.xe) (hc : X.calm = true) (hg : DG X dl tg is a) (hb : DSs X dl W body b) (hst : Still b)
    (hN : X.N[i]? = some x := by rfl) (hv : Vis X.env.scope x := by first | exact Or.inl rfl | exact Or.inr (Or.inl rfl) | exact Or.inr (Or.inr rfl))
    (hd : (x == ("__debug__" : Str)) = false := by decide) (hcd : (x == ("__classdict__" : Str)) = false := by decide)
    (h1 : ∀ z, foldedSetIterable (.Subscript (.Name x p) (.Constant (.str "cells") j q) p0) X.env z = pure z := by intro _; rfl) : DSt X dl W (.For tg (.Subscript (.Name x p) (.Constant (.str "cells") j q) p0) body [] pos) (sForC i a b) := by
  refine PS.of (ps_for hp hc (pi_any (pe_wide i hu hN hv hd hcd "cells")) hg hb h1) fun E sg H q => ?_
  obtain ⟨F0, H0, F, G, s, w, S, g⟩ := q
  unfold sForC at g
  split at g
  case isFalse => exact g.elim
  rename_i h
  have g : GoS X dl W F0 H0 F (forM a b (s.cells.map D.int) G s) E := g
  obtain ⟨d1, d2, d3, d4⟩ := w.dr
  refine ⟨.ref dl.a, drwAt_sl S h, dl.a, .ref dl.c, rfl, .inl ⟨_, Sum.inr "cells", .inl d1, rfl, rfl⟩, .inl ⟨dl.c, rfl, ⟨_, SqL.of d3⟩, ?_⟩⟩
  refine for_it (n := (s.cells.map V.int).length) (G := fun H2 => SqL X.K H2 dl.c (s.cells.map V.int)) walk_list (fun i sg' H' => ∃ (F' : Hp) (G' : Sls), Wd dl F' H' s ∧ Sim X.K X.mg dl F0 H0 F' H' sg' G' ∧ GoS X dl W F0 H0 F' (forM a b ((s.cells.map D.int).drop i) G' s) E) ?_ ?_ ?_ ?_
  · exact ⟨F, G, w, S, by simpa using g⟩
  · rintro i sg' H' _ ⟨F', G', w', S', _⟩
    exact SqL.of w'.dr.2.2.1
  · rintro i y sg' H' H2 hi ⟨F', G', w', S', go⟩ ⟨e1, e2⟩
    subst e1
    have hlt : i < (s.cells.map D.int).length := by simpa using hi
    obtain ⟨c, ec, ey⟩ : ∃ c, s.cells[i]? = some c ∧ y = .int c := by
      rw [List.getElem?_map] at e2
      cases e : s.cells[i]? with
      | none => rw [e] at e2; cases e2
      | some c => rw [e] at e2; cases e2; exact ⟨c, rfl, rfl⟩
    have ed : (s.cells.map D.int).drop i = .int c :: (s.cells.map D.int).drop (i + 1) := by
      rw [List.drop_eq_getElem_cons hlt]
      have : (s.cells.map D.int)[i] = .int c := by
        have z : (s.cells.map D.int)[i]? = some (.int c) := by rw [List.getElem?_map, ec]; rfl
        rw [List.getElem?_eq_getElem hlt] at z
        exact Option.some.inj z
      rw [this]
    rw [ed] at go
    obtain ⟨G2, eG, go2⟩ := GoS.ofO go
    refine ⟨F0, H0, F', G', s, .int c, G2, w', S', ey, eG, fun sg2 _ S2 => ⟨F0, H0, F', G2, s, w', S2, ?_⟩⟩
    unfold bnd at go2
    cases eb : b G2 s with
    | none => rw [eb] at go2; exact go2.elim
    | some pr =>
      obtain ⟨r, s3⟩ := pr
      cases hst G2 s r s3 eb
      rw [eb] at go2
      cases r with
      | err ex => exact go2
      | ok o =>
        cases o with
        | next G3 => exact fun F3 H3 sg3 sm3 w3 S3 => ⟨F3, G3, w3, S3, go2.mono sm3⟩
        | cont G3 => exact fun F3 H3 sg3 sm3 w3 S3 => ⟨F3, G3, w3, S3, go2.mono sm3⟩
        | brk G3 => exact go2
        | ret d => exact go2
  · rintro sg' H' ⟨F', G', w', S', go⟩
    rw [show (s.cells.map D.int).drop (s.cells.map V.int).length = [] by simp] at go
    exact go F' H' sg' (fun _ _ h => h) w' S'
def intD : List D → Option D
  | [.int i] => some (.int i)
  | [.bl k] => some (.int (if k then 1 else 0))
  | _ => none
theorem cd_int : CallR X (.type "int") (rCD X dl intD) := by
  refine rc_of call_int1 fun xs H Q F s ds d w ra e k => ?_
  unfold intD at e
  split at e
  · cases e
    obtain ⟨v, rfl, r⟩ := repL1 ra
    exact .inl ⟨_, by rw [show v = .int _ from r], k F H _ Step.refl w rfl⟩
  · cases e
    obtain ⟨v, rfl, r⟩ := repL1 ra
    exact .inr ⟨_, by rw [show v = .bl _ from r], k F H _ Step.refl w rfl⟩
  · cases e
def absD : List D → Option D
  | [.int i] => some (.int (if i < 0 then -i else i))
  | _ => none
def powD := iopC (fun i j => decide (0 ≤ j ∧ j ≤ 1000000 ∧ i.natAbs < 2 ^ 64)) fun i j => .int (i ^ j.toNat)
theorem od_pow : OpR X (binaryOp .Pow) (rD X dl powD) := op_iopC op_pow (fun i j h => (of_decide_eq_true h : 0 ≤ j ∧ j ≤ 1000000 ∧ i.natAbs < 2 ^ 64)) fun _ _ _ => rfl
end
end EK


namespace EK
open PySem PySem.Spec PyProof.Rows L2
section
variable {X : Cx} {dl : Dr} {W : WX}
def listP : PyData → Option (List PyData)
  | .list ps => some ps
  | _ => none
/-- x in a list of data -/
def inL : D → D → Option D := fun a b => (toP a).bind fun p => (toP b).bind fun q => (listP q).bind fun ps => if (SeqAt.shaped p && SeqAt.shaped q) = true then some (.bl (ps.any fun z => PyData.eqv z p)) else none
def asLen : D → M D
  | .int n => if 0 ≤ n ∧ n < 2 ^ 63 then ret (.int n) else fail
  | _ => fail
def lenC (c : Str) (fm : List D → M D) : List D → M D
  | [d] => if isC c d then bnd (fm [d]) asLen else fail
  | _ => fail
end
end EK


namespace EK
open PySem PySem.Spec PyProof.Rows L2
def obsXG (n : Nat) (fa : List He.Fa) (fn : List He.DefD) (fx : List Fx) (g : Addr → Option Obj) : AlX := obsX fa fn fx (He.frG g (He.asD g n))
def hookX (n : Nat) (fa : List He.Fa) (fn : List He.DefD) (fx : List Fx) : PySem.W.Hook where
  α := AlX
  obs := fun s => obsXG n fa fn fx s.heap.get?
  val := fun _ => (He.valD fn, true)
  says := fun _ h => ∃ K : PySem.W.Frag, K.In h ∧ SaysX fa fn fx K
  of := fun _ _ e => ⟨_, He.frG_in, congrArg (fun z : AlX => z.1) e, congrArg (fun z : AlX => z.2) e⟩
  keeps := fun _ _ _ ⟨K, hK, c⟩ k => ⟨K, PySem.W.Frag.In.keeps hK k, c⟩
section
variable {fa : List He.Fa} {fn : List He.DefD} {fx : List Fx} {K : PySem.W.Frag} {h : Heap} {mg : Str → Option Value}
theorem SaysX.fact (c : SaysX fa fn fx K) (i : Nat) {f : Fx} (h : fx[i]? = some f := by rfl) : f.ok K = true := List.all_eq_true.mp c.x f (List.mem_of_getElem? h)
theorem clsB_ok {C : Addr} (h : clsB K C = true) : PySem.W.findIn K (.ref C) "__class__" = some (some (.builtin "object.__class__")) ∧ PySem.W.specialIn K (.builtin "object.__class__") "__get__" = some (some (.builtin "getset_descriptor.__get__")) ∧
    PySem.W.takesIn K (.builtin "object.__class__") = some true ∧ PySem.W.mroIn K C (.type "object") = some true := by
  unfold clsB at h
  obtain ⟨h1, h⟩ := He.ba h
  obtain ⟨h2, h⟩ := He.ba h
  obtain ⟨h3, h4⟩ := He.ba h
  exact ⟨He.eqO_ok h1, He.eqO_ok h2, of_decide_eq_true h3, of_decide_eq_true h4⟩
theorem isi_ok {x : Str} {t : Ty} {b : Bool} (gl : mg x = some (.ref (He.ga K x))) (cl : Cls K (He.ga K x)) (c : (Fx.isi x t b).ok K = true) : IsiF K mg x (t.val K) b := by
  obtain ⟨c1, c2⟩ := He.ba c
  obtain ⟨h1, h2, h3, h4⟩ := clsB_ok c1
  exact ⟨_, gl, cl, h1, h2, h3, h4, of_decide_eq_true c2⟩
theorem lookup_mem {α : Type} {l : List (String × α)} {t : String} {b : α} (h : l.lookup t = some b) : (t, b) ∈ l := by
  induction l with
  | nil => cases h
  | cons p l ih =>
    obtain ⟨x, y⟩ := p
    rw [List.lookup_cons] at h
    split at h
    · rename_i e
      cases h
      rw [beq_iff_eq.mp e]
      exact List.mem_cons_self
    · exact List.mem_cons_of_mem _ (ih h)
theorem kits_ok {u : Ty} {tbl : List (String × Bool)} (c : (Fx.kits u tbl).ok K = true) : ∀ t b, tbl.lookup t = some b → PySem.W.kitOne K (.type t) (u.val K) = some b := fun t b h =>
  of_decide_eq_true (List.all_eq_true.mp (show (tbl.all fun p => decide (PySem.W.kitOne K (.type p.1) (u.val K) = some p.2)) = true from c) (t, b) (lookup_mem h))
variable {P : Program} {w : World} {base : Heap} {x m : Str} {k n : Nat} {fm : List D → M D} {fd : FuncData} {ps : List Str}
theorem make_of {mm : List D → M (List Str × List D)} (gl : mg x = some (.ref (He.ga K x))) (c : (He.Fa.mkr x).ok K = true) (hl : ps.length = n + 1) (hb : Binds K fd ps []) (F : FnOk P w K mg base (L2.CX P w) k (He.ma K (He.ga K x) "__init__") fd ps (spI K mg x n mm)) : MkF P w K mg base x k n mm :=
  ⟨_, _, fd, ps, gl, He.mkr_ok c, hl, hb, F⟩
theorem def_of (gl : mg x = some (.ref (He.ga K x))) (kp : PySem.W.keepIn K (.ref (He.ga K x)) = true) (hl : ps.length = n) (hb : Binds K fd ps []) (F : FnOk P w K mg base (L2.CX P w) k (He.ga K x) fd ps (spD K mg n fm)) : DFn P w K mg base x k n fm :=
  ⟨_, fd, ps, gl, kp, hl, hb, F⟩
end
end EK


namespace EK
open PySem PySem.Spec PyProof.Rows L2
theorem hu64 {k : Nat} {A : Around} (r : Room k A) : A.units + 64 < cLine := by have := r.un; omega
theorem hu65 {k : Nat} {A : Around} (r : Room k A) : A.units + 65 < cLine := by have := r.un; omega
theorem no_cls {K : PySem.W.Frag} {mg : Str → Option Value} {T : Value} : ∀ c b, ([] : List (Str × Bool)).lookup c = some b → IsiF K mg c T b := fun _ _ h => nomatch h
theorem one_cls {K : PySem.W.Frag} {mg : Str → Option Value} {T : Value} {x : Str} {k : Bool} {l : List (Str × Bool)} (h0 : IsiF K mg x T k) (h1 : ∀ c b, l.lookup c = some b → IsiF K mg c T b) : ∀ c b, ((x, k) :: l).lookup c = some b → IsiF K mg c T b := fun c b h => by
  rw [List.lookup_cons] at h
  split at h
  · rename_i e
    cases h
    rw [beq_iff_eq.mp e]
    exact h0
  · exact h1 c b h
/-- a list display of one's own -/
def gLD (r : SA) : SA := fun G => bnd (r G) fun ds => ofO (if ds.length ≤ sizeLine then some ds else none)
def sFldC (c nm : Str) (f : SE) : SS := fun G => match (G[0]? : Option (Option Sl)) with
  | some (some (.ini c' _ _)) => if c' = c then sFldI nm f G else fail
  | _ => fail
section
variable {X : Cx} {dl : Dr} {W : WX} {pos p p2 pos' : Pos} {e : Expr} {es : List Expr} {f : SE} {ra : SA} {x : Str} {id : String}
theorem deo_lstD {r : SA} (h : DA X dl W es r) : DEO X dl W (.List es pos) (gLD r) := deo_lst h
theorem ds_fldC {c nm : Str} (h : FldF X.K X.mg c nm) (he : DE X dl W e f) (hN : X.N[0]? = some x := by rfl) (hv : Vis X.env.scope x := by first | exact Or.inl rfl | exact Or.inr (Or.inl rfl) | exact Or.inr (Or.inr rfl)) (hd : (x == ("__debug__" : Str)) = false := by decide)
    (hcd : (x == ("__classdict__" : Str)) = false := by decide) (hs : swapsWith e (some (.Attribute (.Name x p2) nm pos')) pos.line X.env = pure false := by rfl) :
    DSt X dl W (.Assign [.Attribute (.Name x p2) nm pos'] e pos) (sFldC c nm f) := ds_fldI h (pe_var hN hv hd hcd) he hs
end
theorem bb_len : bootBuiltins "len" = some (.builtin "len") := by decide +kernel
theorem bb_all : bootBuiltins "all" = some (.builtin "all") := by decide +kernel
theorem bb_min : bootBuiltins "min" = some (.builtin "min") := by decide +kernel
theorem bb_abs : bootBuiltins "abs" = some (.builtin "abs") := by decide +kernel
theorem bb_tuple : bootBuiltins "tuple" = some (.type "tuple") := by decide +kernel
theorem bb_list : bootBuiltins "list" = some (.type "list") := by decide +kernel
theorem bb_int : bootBuiltins "int" = some (.type "int") := by decide +kernel
theorem bb_str : bootBuiltins "str" = some (.type "str") := by decide +kernel
theorem bb_bool : bootBuiltins "bool" = some (.type "bool") := by decide +kernel
theorem lenN : ∀ (G : Sls) (ds : List D) (G' : Sls), sgNil G ds = some G' → ds.length = 0 := fun G ds G' h => by
  cases ds with
  | nil => rfl
  | cons a l => cases h
theorem lenK {f : SG} {r : Sls → List D → Option Sls} {n : Nat} (h : ∀ (G : Sls) (ds : List D) (G' : Sls), r G ds = some G' → ds.length = n) : ∀ (G : Sls) (ds : List D) (G' : Sls), sgCons f r G ds = some G' → ds.length = n + 1 := fun G ds G' e => by
  cases ds with
  | nil => cases e
  | cons a l =>
    have e : ((f G a).bind fun G1 => r G1 l) = some G' := e
    cases q : f G a with
    | none => rw [q] at e; cases e
    | some G1 =>
      rw [q] at e
      rw [List.length_cons, h G1 l G' e]
def Stl {α : Type} (m : M α) : Prop := ∀ s r s', m s = some (r, s') → s' = s
theorem stl_ret {α : Type} {a : α} : Stl (ret a) := fun s r s' h => by cases h; rfl
theorem stl_fail {α : Type} : Stl (fail : M α) := fun s r s' h => by cases h
theorem stl_ofO {α : Type} {o : Option α} : Stl (ofO o) := by
  cases o with
  | none => exact stl_fail
  | some a => exact stl_ret
theorem stl_bnd {α β : Type} {m : M α} {k : α → M β} (h1 : Stl m) (h2 : ∀ a, Stl (k a)) : Stl (bnd m k) := fun s r s' h => by
  unfold bnd at h
  cases e : m s with
  | none => rw [e] at h; cases h
  | some p =>
    obtain ⟨r1, s1⟩ := p
    rw [e] at h
    cases h1 s r1 s1 e
    cases r1 with
    | err x => cases h; rfl
    | ok a => exact h2 a s r s' h
theorem stl_gv {i : Nat} {G : Sls} : Stl (gv i G) := by
  unfold gv
  split
  · exact stl_ret
  · exact stl_fail
theorem stl_g2 {g : D → D → Option D} {fa fb : SE} {G : Sls} (ha : Stl (fa G)) (hb : Stl (fb G)) : Stl (g2 g fa fb G) := stl_bnd ha fun _ => stl_bnd hb fun _ => stl_ofO
theorem stl_gC {g : List D → Option D} {fa : SA} {G : Sls} (ha : Stl (fa G)) : Stl (gC g fa G) := stl_bnd ha fun _ => stl_ofO
theorem stl_saC {f : SE} {r : SA} {G : Sls} (ha : Stl (f G)) (hb : Stl (r G)) : Stl (saC f r G) := stl_bnd ha fun _ => stl_bnd hb fun _ => stl_ret
theorem stl_sa0 {G : Sls} : Stl (sa0 G) := stl_ret
theorem still_asg {f : SE} {a : SG} (h : ∀ G, Stl (f G)) : Still (sAsg f a) := fun G => stl_bnd (h G) fun _ => stl_bnd stl_ofO fun _ => stl_ret
theorem bind0 {K : PySem.W.Frag} {fd : FuncData} {ps : List Str} (h : ∃ ds, Vals ([] : List V) ds ∧ Binds K fd ps ds) : Binds K fd ps [] := by
  obtain ⟨ds, h1, h2⟩ := h
  cases h1
  exact h2
section
variable {X : Cx} {dl : Dr} {W : WX} {a b : Expr} {c1 c2 : V} {p p' pos : Pos} {x : Str}
end
section
variable {X : Cx} {dl : Dr} {W : WX} {b : Expr} {fb : SE} {g : D → D → Option D} {p pos : Pos} {x : Str}
end
end EK


namespace EK
open PySem PySem.Spec PyProof.Rows L2
def absI (g : Int) : Int := if g < 0 then -g else g
def wideOf (ns : List Int) : List Int := (ns.filter fun g => decide (10 ^ 18 ≤ absI g)).map fun g => absI g - 10 ^ 18
def cellsOf (ns : List Int) : List Int := ns.map fun g => absI g % 2147483629
def ds0 (ns : List Int) : DS := ⟨wideOf ns, cellsOf ns, 0, 0⟩
/-- the drawing object, new -/
structure Begun (dl : Dr) (H H' : Hp) (ns : List Int) : Prop where
  kp : ∀ b o, H b = some o → H' b = some o
  al : ∀ b, H' b = none → H b = none
  nt : ∀ b o, H' b = some o → H b = some o ∨ (NotTbl o ∧ NotCode o)
  na : H dl.a = none
  nw : H dl.w = none
  nc : H dl.c = none
  ok : DrawOk dl H' (ds0 ns)
def spB (K : PySem.W.Frag) : Sp := fun vs H Q _ => ∃ (a : Addr) (ns : List Int), vs = [.ref a] ∧ SqL K H a (ns.map V.int) ∧ ns.length ≤ 63 ∧ ∀ (dl : Dr) (H' : Hp), Begun dl H H' ns → Q (.ref dl.a) H'
/-- [e for g in script if t], over ints -/
theorem lc_ints {K : PySem.W.Frag} {J : It} {ns : List Int} {a : Addr} {H1 : Hp} {D : Addr} {g : TG} {tt : TT} {te : TE} {vs : List Nat} {sg : L2.St} {Qd : Hp → Prop} (t : Int → Bool) (f : Int → Int)
    (wk : Walk J (ns.map V.int).length (fun H2 => SqL K H2 a (ns.map V.int)) (YAt (ns.map V.int))) (hs : SqL K H1 a (ns.map V.int)) (hD : H1 D = none) (hl : ns.length ≤ 63)
    (step : ∀ (n : Int) (H' : Hp) (P : Hp → Prop) (acc : List V), H' D = some (.lst acc) → acc.length < sizeLine → (t n = true → P (upd H' D (.lst (acc ++ [.int (f n)])))) → (t n = false → P H') → g (.int n) (wipe sg vs) H' fun s2 H2 => wipe s2 vs = wipe sg vs ∧ tt s2 H2 fun b H3 =>
      if b = true then te s2 H3 fun y H4 => ∃ acc, H4 D = some (.lst acc) ∧ acc.length < sizeLine ∧ P (upd H4 D (.lst (acc ++ [y]))) else P H3)
    (hd : Qd (upd H1 D (.lst (((ns.filter t).map f).map V.int)))) :
    ∃ W : Nat → Nat → Hp → Prop, (∃ m, W 0 m (upd H1 D (.lst []))) ∧ ∀ i m H, W i m H →
      (J.stop i H ∧ Qd H) ∨ (J.go i H ∧ ∃ Nx : Hp → Prop, (∀ H', Nx H' → ∃ m', m' < m ∧ W (i + 1) m' H') ∧ ∀ x H', J.yld i H x H' → g x (wipe sg vs) H' fun s2 H2 => wipe s2 vs = wipe sg vs ∧ tt s2 H2 fun b H3 =>
        if b = true then te s2 H3 fun y H4 => ∃ acc, H4 D = some (.lst acc) ∧ acc.length < sizeLine ∧ Nx (upd H4 D (.lst (acc ++ [y]))) else Nx H3) := by
  have sz : 1000 < sizeLine := by rw [sizeLine_eq]; omega
  refine lc_it wk (fun i H' => H' = upd H1 D (.lst ((((ns.take i).filter t).map f).map V.int))) rfl ?_ ?_ ?_
  · rintro i H' _ rfl
    exact L2.Same.seq (fun b o e => by rw [upd_ne (ne_of_none e hD)]; exact e) hs
  · rintro i x H' H2 hi rfl ⟨rfl, e⟩
    rw [List.getElem?_map] at e
    cases en : ns[i]? with
    | none => rw [en] at e; cases e
    | some n =>
      rw [en] at e
      cases e
      have ht : ns.take (i + 1) = ns.take i ++ [n] := by rw [List.take_add_one, en]; rfl
      refine step n _ _ _ upd_same ?_ (fun c => ?_) (fun c => ?_)
      · rw [List.length_map, List.length_map]
        have h1 := List.length_filter_le t (ns.take i)
        have h2 := List.length_take_le i ns
        have h3 : (ns.take i).length ≤ ns.length := by rw [List.length_take]; omega
        omega
      · show upd (upd H1 D _) D _ = upd H1 D _
        rw [upd_upd, ht, List.filter_append, List.map_append, List.map_append]
        simp [c]
      · show upd H1 D _ = upd H1 D _
        rw [ht, List.filter_append]
        simp [c]
  · rintro H' rfl
    rw [List.length_map, List.take_length]
    exact hd
end EK


namespace EK
open PySem PySem.Spec PyProof.Rows L2
theorem pss_dl {X : Cx} {ss : List Stmt} {T : List (Addr × Str)} {t : Dr → TS} (h : ∀ dl : Dr, dl.tabs = T → PSs X ss (t dl)) : PSs X ss (fun E sg H => ∃ dl : Dr, dl.tabs = T ∧ t dl E sg H) := ⟨fun pins s sg H D I q => by
  obtain ⟨dl, e, q⟩ := q
  exact (h dl e).run pins s sg H D I q⟩
def startL (n : Nat) (ns : List Int) : Sls := some (.fz (.scr ns)) :: some (.fz .drw) :: List.replicate (n - 2) none
def runL (n : Nat) (b : SS) (ns : List Int) : M D := bnd (b (startL n ns)) fun o => match o with
  | .next _ => ret .non
  | .ret d => ret d
  | _ => fail
def spLaw (K : PySem.W.Frag) (T : List (Addr × Str)) (m : List Int → M D) : Sp := fun vs H Q _ => ∃ (a : Addr) (ns : List Int), vs = [.ref a] ∧ (∀ p ∈ T, H p.1 = some (.tbl #[])) ∧ (∀ b, H b = none ∨ b ∈ T.map (·.1) ∨ ∃ o xs, H b = some (.frz o (.lst xs))) ∧ SqL K H a (ns.map V.int) ∧ ns.length ≤ 63 ∧ (∃ s', m ns (ds0 ns) = some (.ok (.bl true), s')) ∧ ∀ H', Q (.bl true) H'
abbrev tLaw (X : Cx) (W : WX) (T : List (Addr × Str)) (b : SS) : TS := tSeq (tAsg (tCall (spB X.K) [] L2.E0 (tCons (tVar 0) tNil)) (gName 1)) (fun E sg H => ∃ dl : Dr, dl.tabs = T ∧ tS X dl W b E sg H)
end EK


namespace EK
open PySem PySem.Spec PyProof.Rows L2
def isNon : D → Bool
  | .non => true
  | _ => false
def isND : D → D → Option D
  | d, .non => some (.bl (isNon d))
  | _, _ => none
def notND : D → D → Option D
  | d, .non => some (.bl (!isNon d))
  | _, _ => none
theorem isNon_rep {K : PySem.W.Frag} {mg : Str → Option Value} {dl : Dr} {F : Hp} {a : D} {x : V} (h : Rep K mg dl F a x) : decide (x = .non) = isNon a := by
  cases a with
  | non => have h : x = .non := h; subst h; rfl
  | bl b => have h : x = .bl b := h; subst h; rfl
  | int b => have h : x = .int b := h; subst h; rfl
  | str b => have h : x = .str b := h; subst h; rfl
  | drw => have h : x = .ref dl.a := h; subst h; rfl
  | tup xs => obtain ⟨p, vs, rfl, _⟩ := h; rfl
  | lst xs => obtain ⟨p, vs, rfl, _⟩ := h; rfl
  | obj c ns xs => obtain ⟨p, _, _, vs, rfl, _⟩ := h; rfl
  | scr xs => obtain ⟨p, rfl, _⟩ := h; rfl
  | dct ks xs => obtain ⟨p, o, vs, rfl, _⟩ := h; rfl
  | dcT ks xs => obtain ⟨p, o, vs, rfl, _⟩ := h; rfl
  | exc c ns xs => obtain ⟨p, C, vs, rfl, _⟩ := h; rfl
section
variable {X : Cx} {dl : Dr}
theorem od_isN : OpR X (compareOp .Is) (rD X dl isND) := by
  refine rd_of op_isN fun x y H Q F s a b d w ra rb e k => ?_
  cases b with
  | non =>
    cases e
    have rb : y = .non := rb
    exact ⟨rb, by rw [isNon_rep ra]; exact k F H _ Step.refl w rfl⟩
  | _ => cases e
end
def gCallD (n : Nat) (m : List D → M D) (dd : List D) (ra : SA) : SE := fun G => bnd (ra G) fun ds => if (ds ++ dd).length = n then m (ds ++ dd) else fail
structure DFnD (P : Program) (w : World) (K : PySem.W.Frag) (mg : Str → Option Value) (base : Heap) (x : Str) (k n : Nat) (m : List D → M D) (dd : List D) : Prop where
  ex : ∃ (f : Addr) (fd : FuncData) (ps : List Str) (ds : List Value) (dvs : List V), mg x = some (.ref f) ∧ PySem.W.keepIn K (.ref f) = true ∧ ps.length = n ∧ Vals dvs ds ∧ Binds K fd ps ds ∧ (∀ dl F, RepL K mg dl F dd dvs) ∧
    FnOk P w K mg base (L2.CX P w) k f fd ps (spD K mg n m)
section
variable {X : Cx} {dl : Dr} {W : WX} {x : Str} {k n : Nat} {m : List D → M D} {dd : List D} {e : Expr} {es : List Expr} {ra : SA} {p pos : Pos}
end
end EK


namespace EK
open PySem PySem.Spec PyProof.Rows L2
def obsYG (n : Nat) (fa : List He.Fa) (fn : List He.DefD) (fx : List Fx) (gt : List GetD) (g : Addr → Option Obj) : AlY := obsY fa fn fx gt (He.frG g (He.asD g n))
def hookY (n : Nat) (fa : List He.Fa) (fn : List He.DefD) (fx : List Fx) (gt : List GetD) : PySem.W.Hook where
  α := AlY
  obs := fun s => obsYG n fa fn fx gt s.heap.get?
  val := fun _ => ((He.valD fn, true), true, gt.map GetD.val)
  says := fun _ h => ∃ K : PySem.W.Frag, K.In h ∧ SaysY fa fn fx gt K
  of := fun _ _ e => ⟨_, He.frG_in, ⟨congrArg (fun z : AlY => z.1.1) e, congrArg (fun z : AlY => z.1.2) e⟩, (He.ba (congrArg (fun z : AlY => z.2.1) e)).1, (He.ba (congrArg (fun z : AlY => z.2.1) e)).2, congrArg (fun z : AlY => z.2.2) e⟩
  keeps := fun _ _ _ ⟨K, hK, c⟩ k => ⟨K, PySem.W.Frag.In.keeps hK k, c⟩
section
variable {fa : List He.Fa} {fn : List He.DefD} {fx : List Fx} {gt : List GetD} {K : PySem.W.Frag} {mg : Str → Option Value}
variable {P : Program} {w : World} {base : Heap} {x f : Str} {k : Nat} {fm : List D → M D} {fd : FuncData} {ps : List Str} {p g : Addr}
end
end EK


namespace EK
open PySem PySem.Spec PyProof.Rows L2
/-- a new thing is locked for good -/
theorem PE.lock {X : Cx} {e : Expr} {t : TE} (h : PE X e t) : PE X e (fun sg H Q => t sg H fun v H1 => ∃ d u, v = .ref d ∧ H1 d = some u ∧ Mut (some u) ∧ ∀ od, Q v (upd H1 d (.frz od u))) :=
  ⟨fun pins s sg H Q I q => thn (h.run pins s sg H _ I q) fun u s1 ⟨v, H1, I1, r, d, uu, e1, e2, mu, k⟩ => by
    obtain ⟨od, I2⟩ := I1.lock e2 mu
    exact ⟨v, _, I2, r, k od⟩⟩
theorem CallR.lock {X : Cx} {f : Value} {t : List V → Hp → VK → Prop} (h : CallR X f t) : CallR X f (fun xs H Q => t xs H fun v H1 => ∃ d u, v = .ref d ∧ H1 d = some u ∧ Mut (some u) ∧ ∀ od, Q v (upd H1 d (.frz od u))) :=
  fun pins s sg H xs us Q I rv q => thn (h pins s sg H xs us _ I rv q) fun u s1 ⟨v, H1, I1, r, d, uu, e1, e2, mu, k⟩ => by
    obtain ⟨od, I2⟩ := I1.lock e2 mu
    exact ⟨v, _, I2, r, k od⟩
def keyOf : D → Option Key
  | .int i => some (.inl i)
  | .str x => some (.inr x)
  | _ => none
def keyD : Key → D
  | .inl i => .int i
  | .inr x => .str x
/-- what stands at a key -/
def atK : List Key → List D → Key → Option D
  | k :: ks, x :: xs, j => if k = j then some x else atK ks xs j
  | _, _, _ => none
def hasK (ks : List Key) (j : Key) : Bool := ks.any fun k => decide (k = j)
def dgetD : D → D → Option D
  | .dct ks xs, k => (keyOf k).bind fun j => atK ks xs j
  | _, _ => none
section
variable {X : Cx} {dl : Dr} {W : WX} {a b : Expr} {fa fb : SE} {pos : Pos}
def dinB : D → D → Option Bool
  | k, .dct ks _ => (keyOf k).map fun j => hasK ks j
  | _, _ => none
def dinD (a b : D) : Option D := (dinB a b).map .bl
def dninD (a b : D) : Option D := (dinB a b).map fun k => .bl (!k)
def nodupK : List Key → Bool
  | [] => true
  | k :: ks => !hasK ks k && nodupK ks
def pairD : D → Option (Key × D)
  | .tup [k, x] => (keyOf k).map fun j => (j, x)
  | _ => none
def dictOf (kvs : List (Key × D)) : Option D := if kvs.length ≤ 1000 ∧ nodupK (kvs.map (·.1)) = true then some (.dct (kvs.map (·.1)) (kvs.map (·.2))) else none
def dictPD : List D → Option D
  | [.lst ps] => (ps.mapM pairD).bind dictOf
  | _ => none
def keysD : D → Option (List D)
  | .dct ks _ => some (ks.map keyD)
  | _ => none
def valsD : D → Option (List D)
  | .dct _ xs => some xs
  | _ => none
def itemsDD : D → Option (List D)
  | .dct ks xs => some ((ks.zip xs).map fun p => .tup [keyD p.1, p.2])
  | _ => none
def gItF (g : D → Option (List D)) (f : SE) : SA := fun G => bnd (f G) fun d => ofO (g d)
end
end EK


namespace EK
open PySem PySem.Spec PyProof.Rows L2
def lenDctD : List D → Option D
  | [.dct ks _] => some (.int (ks.length : Int))
  | _ => none
def copyD : List D → Option D
  | [.dct ks xs] => some (.dct ks xs)
  | _ => none
section
variable {X : Cx} {dl : Dr}
end
end EK


namespace EK
open PySem PySem.Spec PyProof.Rows L2
theorem bb_repr : bootBuiltins "repr" = some (.builtin "repr") := by decide +kernel
theorem bb_max : bootBuiltins "max" = some (.builtin "max") := by decide +kernel
def showP (p : PyData) : Option D := if p.showable = true ∧ p.shown.length ≤ sizeLine ∧ p.depth ≤ 60 ∧ p.hasDict = false then some (.str p.shown) else none
def toR : D → Option PyData := toP
def reprD : List D → Option D
  | [d] => (toR d).bind showP
  | _ => none
section
variable {X : Cx} {dl : Dr} {W : WX}
theorem cd_repr (hg : X.A.guards = some []) (hu : X.A.units + 64 < cLine) : CallR X (.builtin "repr") (rCD X dl reprD) := by
  intro pins s sg H xs us Q I r h
  obtain ⟨F, st, ds, d, wd, rp, e, k⟩ := h
  match ds, e with
  | [a], e =>
    have e : (toP a).bind showP = some d := e
    cases ep : toP a with
    | none => rw [ep] at e; cases e
    | some p =>
      rw [ep] at e
      have e : showP p = some d := e
      unfold showP at e
      split at e
      · rename_i hc
        obtain ⟨c1, c2, c3, c4⟩ := hc
        cases e
        obtain ⟨v, vs', rfl, r1, r2⟩ := rp
        cases (show vs' = [] from r2)
        obtain ⟨u, rfl, ru⟩ := vals1 r
        have dp := dp_of wd.sub a v p r1 ep
        have fin : ∀ (h' : Heap) (t tk : Nat), (∀ b o, s.heap.get? b = some o → h'.get? b = some o) → EP X pins sg Q (.str p.shown t) { s with heap := h', toks := tk } := fun h' t tk hk =>
          ⟨.str p.shown, H, I.kept hk, ⟨t, rfl⟩, k F H _ Step.refl wd rfl⟩
        have hs0 : ∀ (t tk : Nat), EP X pins sg Q (.str p.shown t) { s with toks := tk } := fun t tk => fin s.heap t tk fun _ _ e => e
        cases dp with
        | non =>
          cases ru
          exact PySem.P.repr_of_none (hs0 _ _)
        | bl b =>
          cases ru
          cases b with
          | true => exact PySem.P.repr_of_bool (hs0 _ _)
          | false => exact PySem.P.repr_of_bool (hs0 _ _)
        | int i =>
          obtain ⟨t, rfl⟩ := ru
          exact PySem.P.repr_of_int (by simpa [PyData.showable] using c1) (hs0 _ _)
        | str x =>
          obtain ⟨t, rfl⟩ := ru
          exact PySem.P.repr_of_str (hs0 _ _) c2
        | lst h1 h2 =>
          cases ru
          obtain ⟨as, rd⟩ := Dp.reads I _ _ _ (.lst h1 h2) rfl
          exact repr_of_reads' rd c1 (fun z => by rw [c4] at z; cases z) hg (by omega) (fun _ _ e => e) (fun h' u tk hk => fin h' u tk hk) c2
        | tup h1 h2 =>
          cases ru
          obtain ⟨as, rd⟩ := Dp.reads I _ _ _ (.tup h1 h2) rfl
          exact repr_of_reads' rd c1 (fun z => by rw [c4] at z; cases z) hg (by omega) (fun _ _ e => e) (fun h' u tk hk => fin h' u tk hk) c2
      · cases e
  | [], e => cases e
  | _ :: _ :: _, e => cases e
end
def eqS : D → D → Option D
  | .str x, .str y => some (.bl (decide (x = y)))
  | _, _ => none
def neS : D → D → Option D
  | .str x, .str y => some (.bl (!decide (x = y)))
  | _, _ => none
section
variable {X : Cx} {dl : Dr}
theorem od_neS : OpR X (compareOp .NotEq) (rD X dl neS) := by
  refine rd_of op_ne fun x y H Q F s a b d w ra rb e k => ?_
  unfold neS at e
  split at e
  · rename_i u v
    cases e
    cases (show x = .str u from ra)
    cases (show y = .str v from rb)
    refine ⟨rfl, k F H _ Step.refl w ?_⟩
    show V.bl _ = V.bl _
    congr 2
    rw [Bool.eq_iff_iff]
    simp
  · cases e
end
structure FnOkG (P : Program) (w : World) (K : PySem.W.Frag) (mg : Str → Option Value) (base : Heap) (CX : CXT) (k : Nat) (f : Addr) (fd : FuncData) (ps : List Str) (sp : Sp) : Prop where
  len : ∀ vs H Q E, sp vs H Q E → vs.length = ps.length
  run : ∀ (A : Around) (outer : List Env) (s : Shared) (H : Hp) (args : Args) (us : List Value) (vs : List V) (Q : VK) (E : XK), Room k A → A.guards = some [] → Env0 P w K mg base A outer s H →
    BindsTo s fd args (ps.zip us) → Vals vs us → sp vs H Q E → codeAny (model P w) A (.call (.ref f) args) (CR CX outer P w H s Q E) s
theorem FnOkG.of {P : Program} {w : World} {K : PySem.W.Frag} {mg : Str → Option Value} {base : Heap} {CX : CXT} {k : Nat} {f : Addr} {fd : FuncData} {ps : List Str} {sp : Sp} (F : FnOk P w K mg base CX k f fd ps sp) : FnOkG P w K mg base CX k f fd ps sp :=
  ⟨F.len, fun A outer s H args us vs Q E hr _ => F.run A outer s H args us vs Q E hr⟩
theorem fn_ofG {cX : CXT} {P : Program} {w : World} {K : PySem.W.Frag} {mg : Str → Option Value} {base : Heap} {k : Nat} {f : Addr} {nam qual : Str} {params : Arguments} {body : List Stmt} {scope : Scope} {dV kV doc pm cdv ct oc : Value} {an od : Option Addr}
    {osl : Array (Option Value)} {N ps : List Str} {sp : Sp} (lkf : K.lookup f = some ⟨oc, od, .func (PySem.W.fnOf nam qual params body scope dV kV doc pm an cdv ct), osl⟩) (hcd : PySem.W.codeIn K cdv qual = true) (S : FnScope N ps scope)
    (len0 : ∀ vs H Q E, sp vs H Q E → vs.length = ps.length)
    (bodyOk : ∀ (A : Around) (outer : List Env) (s : Shared) (H : Hp) (vs : List V) (Q : VK) (E : XK), Room k (A.deeper (envOfC qual scope s.heap.objs.size f cdv)) → A.guards = some [] → sp vs H Q E →
      ∃ t, PSs (cxOf cX P w K mg base N qual scope f cdv A outer s H E) body t ∧ t { nx := fun _ H' => Q .non H', rt := Q } (start N vs) H) :
    FnOkG P w K mg base cX (k + 1) f (PySem.W.fnOf nam qual params body scope dV kV doc pm an cdv ct) ps sp := by
  refine ⟨len0, fun A outer s H args us vs Q E rm gd en bd rl spq => ?_⟩
  have len1 := len0 _ _ _ _ spq
  have kin : K.In s.heap := en.mod.kin.keeps fun b o e => (en.bs b o e).1
  have nol : s.heap.NoLimit := en.mod.nolimit.keeps fun b o e => (en.bs b o e).1
  have kinds : ∀ y ∈ ps.zip us, scope.names.lookup y.1 = some .local ∨ (scope.names.lookup y.1 = some .cell ∧ ((cellsFrom (s.heap.objs.size + 1) scope.names []).lookup y.1).isSome = true) := fun ⟨n, v⟩ yin => by
    rcases S.par n (List.of_mem_zip yin).1 with z | z
    · exact .inl z
    · exact .inr ⟨z, PySem.W.cellsFrom_some _ _ _ (.inl z)⟩
  refine codeAny_call_function rm.depth (kin _ _ lkf) rfl S.co S.gen rfl (PySem.W.codeRec_of kin hcd) (bd _ _ _ _ ?_)
  refine wpAny_newFunctionEnv_cells S.kind kinds fun env1 he1 s1 x1 => ?_
  subst he1
  refine ⟨nol.keeps x1.toInCall.keep, codeAny_func ?_⟩
  obtain ⟨t, ht, tq⟩ := bodyOk A outer s H vs Q E (rm.deeper _) gd spq
  have I1 : Inv (cxOf cX P w K mg base N qual scope f cdv A outer s H E) [] (start N vs) H s1 := inv_start S rm.hd en len1 rl x1
  refine wpAny_mono (ht.run [] s1 (start N vs) H _ I1 tq) (fun fl s2 z => ?_) fun e s2 z => z
  have done : ∀ {sg' : L2.St} {H2 : Hp} {v : V} {u : Value}, Inv (cxOf cX P w K mg base N qual scope f cdv A outer s H E) [] sg' H2 s2 → RelV v u → Q v H2 → CE outer P w H s Q u s2 :=
    fun {_ H2 v _} J rv q => ⟨v, H2, J.os, J.bare, J.base, J.hok, rv, q⟩
  match fl, z with
  | .ret u, z => obtain ⟨v, sg', H2, J, rv, q⟩ := z; exact done J rv q
  | .next, z => obtain ⟨sg', H2, J, q⟩ := z; exact done (v := V.non) (u := Value.none) J rfl q
  | .brk, z => obtain ⟨_, _, _, q⟩ := z; exact q.elim
  | .cont, z => obtain ⟨_, _, _, q⟩ := z; exact q.elim
/-- the code object of the def at f -/
def codeA (K : PySem.W.Frag) (f : Addr) : Addr := match K.lookup f with
  | some ⟨_, _, .func fd, _⟩ => (match fd.code with
    | .ref c => c
    | _ => 0)
  | _ => 0
section
variable {P : Program} {w : World} {K : PySem.W.Frag} {mg : Str → Option Value} {base : Heap} {x qual : Str} {f : Addr} {fd : FuncData}
theorem FunD_okG {params : Arguments} {body : List Stmt} {scope : Scope} {dvs : List V} {kws : List (Str × V)} {cX : CXT} {N ps : List Str} {k : Nat} {sp : Sp} (F : FunD K x qual params body scope dvs kws f fd) (S : FnScope N ps scope) (len0 : ∀ vs H Q E, sp vs H Q E → vs.length = ps.length)
    (bodyOk : ∀ (cdv : Value) (A : Around) (outer : List Env) (s : Shared) (H : Hp) (vs : List V) (Q : VK) (E : XK), Room k (A.deeper (envOfC qual scope s.heap.objs.size f cdv)) → A.guards = some [] → PySem.W.codeIn K cdv qual = true → cdv = .ref (codeA K f) → sp vs H Q E →
      ∃ t, PSs (cxOf cX P w K mg base N qual scope f cdv A outer s H E) body t ∧ t { nx := fun _ H' => Q .non H', rt := Q } (start N vs) H) : FnOkG P w K mg base cX (k + 1) f fd ps sp := by
  obtain ⟨oc, od, dV, kV, doc, pm, an, cdv, ct, osl, rfl, lkf, hcd, _, _⟩ := F.ex
  refine fn_ofG lkf hcd S len0 fun A outer s H vs Q E rm gd spq => bodyOk cdv A outer s H vs Q E rm gd hcd ?_ spq
  obtain ⟨c, rfl⟩ := He.codeIn_ref hcd
  unfold codeA
  rw [lkf]
/-- .. its promise, where the tables are T -/
def spDT (K : PySem.W.Frag) (mg : Str → Option Value) (T : List (Addr × Str)) (n : Nat) (m : List D → M D) : Sp := fun vs H Q E => vs.length = n ∧ ∃ (dl : Dr) (F : Hp) (ds : List D) (s : DS), dl.tabs = T ∧ Wd dl F H s ∧ RepL K mg dl F ds vs ∧ Go mg K dl E F H (m ds s) fun d _ F' H' => ∀ v, Rep K mg dl F' d v → Q v H'
/-- a def, with no repr around it -/
structure DFnG (P : Program) (w : World) (K : PySem.W.Frag) (mg : Str → Option Value) (base : Heap) (T : List (Addr × Str)) (x : Str) (k n : Nat) (m : List D → M D) : Prop where
  ex : ∃ (f : Addr) (fd : FuncData) (ps : List Str), mg x = some (.ref f) ∧ PySem.W.keepIn K (.ref f) = true ∧ ps.length = n ∧ Binds K fd ps [] ∧ FnOkG P w K mg base (L2.CX P w) k f fd ps (spDT K mg T n m)
theorem def_ofG {T : List (Addr × Str)} {ps : List Str} {n k : Nat} {fm : List D → M D} (gl : mg x = some (.ref (He.ga K x))) (kp : PySem.W.keepIn K (.ref (He.ga K x)) = true) (hl : ps.length = n) (hb : Binds K fd ps []) (F : FnOkG P w K mg base (L2.CX P w) k (He.ga K x) fd ps (spDT K mg T n fm)) : DFnG P w K mg base T x k n fm :=
  ⟨_, fd, ps, gl, kp, hl, hb, F⟩
theorem dfn_ofG (T : List (Addr × Str)) {st : Stmt} {N ps : List Str} {k n : Nat} {b : SS} {dvs : List V} {kws : List (Str × V)} (F : FunD K x qual (defArgs st) (defBody st) (defScope st) dvs kws f fd) (S : FnScope N ps (defScope st)) (hn : ps.length = n)
    (hb : ∀ (cdv : Value) (A : Around) (outer : List Env) (s : Shared) (H : Hp) (E : XK) (dl : Dr), Room k (cxOf (L2.CX P w) P w K mg base N qual (defScope st) f cdv A outer s H E).A →
      Takes (cxOf (L2.CX P w) P w K mg base N qual (defScope st) f cdv A outer s H E) (fun cls d _ H => E cls d H) →
      PassesOwn (model P w) (cxOf (L2.CX P w) P w K mg base N qual (defScope st) f cdv A outer s H E).A (cxOf (L2.CX P w) P w K mg base N qual (defScope st) f cdv A outer s H E).env (cxOf (L2.CX P w) P w K mg base N qual (defScope st) f cdv A outer s H E).xe →
      (cxOf (L2.CX P w) P w K mg base N qual (defScope st) f cdv A outer s H E).A.guards = some [] → dl.tabs = T → PySem.W.codeIn K cdv qual = true → cdv = .ref (codeA K f) →
      DSs (cxOf (L2.CX P w) P w K mg base N qual (defScope st) f cdv A outer s H E) dl (fun cls d _ H => E cls d H) (defBody st) b) :
    FnOkG P w K mg base (L2.CX P w) (k + 1) f fd ps (spDT K mg T n (runB N.length b)) := by
  refine FunD_okG F S (fun vs H Q E h => h.1.trans hn.symm) fun cdv A outer s H vs Q E hr hg hcd hce h => ?_
  obtain ⟨hlen, dl, Fz, ds, s0, hT, wd, rp, go⟩ := h
  refine ⟨_, hb cdv A outer s H E dl hr (takes_of rfl rfl rfl rfl) (passes_of rfl) hg hT hcd hce, ?_⟩
  refine ⟨Fz, H, Fz, startG N.length ds, s0, wd, sim_start rp, ?_⟩
  unfold runB bnd at go
  cases e : b (startG N.length ds) s0 with
  | none => rw [e] at go; exact go
  | some p =>
    obtain ⟨r, s1⟩ := p
    rw [e] at go
    cases r with
    | err x => exact fun F' H' sg' cls d st w xr => go F' H' cls d st w xr
    | ok o =>
      cases o with
      | next G => exact fun F' H' sg' sm w S => go F' H' S.st w .non rfl
      | brk G => exact go.elim
      | cont G => exact go.elim
      | ret d => exact fun F' H' v st w r => go F' H' st w v r
end
section
variable {X : Cx} {dl : Dr} {W : WX} {pos p : Pos} {x : Str} {e : Expr} {es : List Expr} {ra : SA} {k n : Nat} {m : List D → M D}
theorem run_fnG {cX : CXT} {f : Addr} {fd : FuncData} {ps : List Str} {sp : Sp} {E : L2.St → XK} {pins : List (Addr × Obj)} {sg : L2.St} {H : Hp} {s : Shared} {Q : VK} {us : List Value} {vs : List V} (F : FnOkG X.prog X.w X.K X.mg X.base cX k f fd ps sp) (hr : Room k X.A) (hg : X.A.guards = some []) (hb : Binds X.K fd ps []) (hx : PassesAt cX X sg (E sg))
    (I : Inv X pins sg H s) (r : Vals vs us) (h : sp vs H Q (E sg)) : wpAny (model X.prog X.w) X.A (call (.ref f) us) (EP X pins sg Q) X.xe s := by
  have len1 : us.length = ps.length := by rw [← r.length]; exact F.len _ _ _ _ h
  have bd := hb s us I.kIn (by rw [List.append_nil]; exact len1)
  rw [List.append_nil] at bd
  refine wpAny_call (codeAny_mono (F.run X.A X.stack s H ⟨us, []⟩ us vs Q (E sg) hr hg I.env0 bd r h) fun z s2 q => ?_)
  match z, q with
  | .error e, q => exact hx pins H s e s2 I q
  | .ok (.ret u), q => exact I.after q
  | .ok .next, q => exact q.elim
  | .ok .brk, q => exact q.elim
  | .ok .cont, q => exact q.elim
theorem de_callG {T : List (Addr × Str)} (h : DFnG X.prog X.w X.K X.mg X.base T x k n m) (hr : Room k X.A) (gd : X.A.guards = some []) (hT : dl.tabs = T) (tk : Takes X W) (ha : DA X dl W (e :: es) ra) (hg : Gl X x := by rfl)
    (hdb : (x == ("__debug__" : Str)) = false := by decide) (he : starEach (e :: es) X.env = (false, eval e X.env) :: starEach es X.env := by rfl) (hpl : (backTo pos (starEach es X.env)).any (·.1) = false := by rfl) :
    DE X dl W (.Call (.Name x p) (e :: es) [] pos) (gCall n m ra) := by
  obtain ⟨f, fd, ps, h1, h2, h3, h4, h5⟩ := h.ex
  have R : PE X (.Call (.Name x p) (e :: es) [] pos) (tCallS (spDT X.K X.mg T n m) (WE W) (tDA X dl W ra)) := ⟨fun pins s sg H Q I q => by
    refine wpAny_Call_Name_kw (ld_glob I hg h1 ?_ hdb)
    refine PySem.W.callWith_K (h₀ := X.base) I.ok.mod.kin h2 (thn (ha.run pos pins s sg H _ I q) fun us s1 ⟨vs, H1, I1, r1, q1⟩ => ⟨I1.kIn, ?_⟩) he hpl
    exact run_fnG (E := WE W) h5 hr gd h4 (passAt tk sg) I1 r1 q1⟩
  refine PE.of R fun sg H Q q => ?_
  obtain ⟨F, F0, H0, G, s, w, S, g⟩ := q
  refine ⟨F, F0, H0, G, s, w, S, g.bnd.imp fun ds s1 F1 H1 st1 w1 g1 vs rvs => ?_⟩
  by_cases hl : ds.length = n
  · rw [if_pos hl] at g1
    exact ⟨rvs.length.symm.trans hl, dl, F1, ds, s1, hT, w1, rvs, g1⟩
  · rw [if_neg hl] at g1
    exact g1.elim
end
end EK


namespace EK
open PySem PySem.Spec PyProof.Rows L2
/-- all but the tables -/
def hidF (H : Hp) (T : List (Addr × Str)) : Hp := fun b => if b ∈ T.map (·.1) then none else H b
theorem hidF_some {H : Hp} {T : List (Addr × Str)} {b : Addr} {o : HO} (h : hidF H T b = some o) : b ∉ T.map (·.1) ∧ H b = some o := by
  unfold hidF at h
  by_cases z : b ∈ T.map (·.1)
  · rw [if_pos z] at h; cases h
  · rw [if_neg z] at h; exact ⟨z, h⟩
theorem hidF_none {H : Hp} {T : List (Addr × Str)} {b : Addr} (h : H b = none) : hidF H T b = none := by
  unfold hidF
  by_cases z : b ∈ T.map (·.1)
  · rw [if_pos z]
  · rw [if_neg z]; exact h
theorem hidF_tab {H : Hp} {T : List (Addr × Str)} {b : Addr} {q : Str} (h : (b, q) ∈ T) : hidF H T b = none := by
  unfold hidF
  rw [if_pos (List.mem_map.mpr ⟨_, h, rfl⟩)]
theorem hidF_of {H : Hp} {T : List (Addr × Str)} {b : Addr} {o : HO} (hT : ∀ p ∈ T, H p.1 = some (.tbl #[])) (h : H b = some o) (ho : o ≠ .tbl #[]) : hidF H T b = some o := by
  unfold hidF
  rw [if_neg (fun z => by
    obtain ⟨p, hp, e⟩ := List.mem_map.mp z
    have q := hT p hp
    rw [e, h] at q
    exact ho (Option.some.inj q))]
  exact h
theorem hidF_seq {K : PySem.W.Frag} {H : Hp} {T : List (Addr × Str)} {a : Addr} {xs : List V} (hT : ∀ p ∈ T, H p.1 = some (.tbl #[])) (h : SqL K H a xs) : SqL K (hidF H T) a xs := by
  rcases h with (h | ⟨o, h⟩) | h
  · exact .inl (.inl (hidF_of hT h (fun z => by cases z)))
  · exact .inl (.inr ⟨o, hidF_of hT h (fun z => by cases z)⟩)
  · exact .inr h
theorem law_tabs {T : List (Addr × Str)} {dl : Dr} {H H' : Hp} {ns : List Int} (hTb : ∀ p ∈ T, H p.1 = some (.tbl #[])) (hOn : ∀ b, H b = none ∨ b ∈ T.map (·.1) ∨ ∃ o xs, H b = some (.frz o (.lst xs))) (bg : Begun dl H H' ns) : TabF T (hidF H T) H' := by
  refine ⟨fun p hp => ⟨#[], bg.kp _ _ (hTb p hp), True.intro, fun pos cv hc => ?_⟩, fun b ps h => ?_, fun b c q h => ?_⟩
  · have z : codeAmong pos [] = some cv := hc
    simp [codeAmong] at z
  · rcases bg.nt b _ h with z | ⟨z, _⟩
    · rcases hOn b with y | y | ⟨o, xs, y⟩
      · rw [z] at y; cases y
      · obtain ⟨p, hp, e⟩ := List.mem_map.mp y
        exact ⟨p.2, by rw [← e]; exact hp⟩
      · rw [z] at y; cases y
    · exact absurd rfl (z ps)
  · rcases bg.nt b _ h with z | ⟨_, z⟩
    · rcases hOn b with y | y | ⟨o, xs, y⟩
      · rw [z] at y; cases y
      · obtain ⟨p, hp, e⟩ := List.mem_map.mp y
        have := hTb p hp
        rw [e, z] at this
        exact absurd this fun w => by
          have w2 := Option.some.inj w
          unfold LamX.CodeO at w2
          cases w2
      · rw [z] at y
        have w2 := Option.some.inj y
        unfold LamX.CodeO at w2
        cases w2
    · exact absurd rfl (z c q)
theorem law_ofG (T : List (Addr × Str)) {P : Program} {w : World} {K : PySem.W.Frag} {mg : Str → Option Value} {base : Heap} {x qual : Str} {st : Stmt} {f : Addr} {fd : FuncData} {N : List Str} {k : Nat} {b : SS} {p : Str} {dvs : List V} {kws : List (Str × V)} (F : FunD K x qual (defArgs st) (defBody st) (defScope st) dvs kws f fd) (S : FnScope N [p] (defScope st)) (hn : 2 ≤ N.length)
    (hb : ∀ (cdv : Value) (A : Around) (outer : List Env) (s : Shared) (H : Hp) (E : XK), Room k (cxOf (L2.CX P w) P w K mg base N qual (defScope st) f cdv A outer s H E).A →
      Takes (cxOf (L2.CX P w) P w K mg base N qual (defScope st) f cdv A outer s H E) (fun cls d _ H => E cls d H) →
      PassesOwn (model P w) (cxOf (L2.CX P w) P w K mg base N qual (defScope st) f cdv A outer s H E).A (cxOf (L2.CX P w) P w K mg base N qual (defScope st) f cdv A outer s H E).env (cxOf (L2.CX P w) P w K mg base N qual (defScope st) f cdv A outer s H E).xe →
      (cxOf (L2.CX P w) P w K mg base N qual (defScope st) f cdv A outer s H E).A.guards = some [] → PySem.W.codeIn K cdv qual = true → cdv = .ref (codeA K f) →
      PSs (cxOf (L2.CX P w) P w K mg base N qual (defScope st) f cdv A outer s H E) (defBody st) (tLaw (cxOf (L2.CX P w) P w K mg base N qual (defScope st) f cdv A outer s H E) (fun cls d _ H => E cls d H) T b)) :
    FnOkG P w K mg base (L2.CX P w) (k + 1) f fd [p] (spLaw K T (runL N.length b)) := by
  refine FunD_okG F S (fun vs H Q E h => by obtain ⟨a, ns, rfl, _⟩ := h; rfl) fun cdv A outer s H vs Q E hr hg hcd hce h => ?_
  obtain ⟨a, ns, rfl, hTb, hOn, hS, hl, ⟨s', go⟩, hQ⟩ := h
  refine ⟨_, hb cdv A outer s H E hr (takes_of rfl rfl rfl rfl) (passes_of rfl) hg hcd hce, ?_⟩
  match N, hn with
  | n1 :: n2 :: N', _ => ?_
  refine ⟨.ref a, rfl, a, ns, rfl, hS, hl, fun dl H' bg => ⟨{ dl with tabs := T }, rfl, ?_⟩⟩
  refine ⟨hidF H T, H', hidF H T, startL (N'.length + 2) ns, ds0 ns, ⟨fun b o e => bg.kp b o (hidF_some e).2, fun c hc => ?_, bg.ok, law_tabs hTb hOn bg⟩, ?_, ?_⟩
  · rcases hc with rfl | rfl | rfl | ⟨q, hq⟩
    · exact hidF_none bg.na
    · exact hidF_none bg.nw
    · exact hidF_none bg.nc
    · exact hidF_tab hq
  · refine ⟨?_, fun i t e => ?_, fun i j t u e1 e2 o1 o2 _ => ?_, Step.refl, Trs.no fun i t e => by
      match i with
      | 0 => cases e
      | 1 => cases e
      | i + 2 =>
        have e : (List.replicate (N'.length + 2 - 2) (none : Option Sl))[i]? = some (some (.tree t)) := e
        rw [List.getElem?_replicate] at e
        split at e <;> cases e⟩
    · show (startL (N'.length + 2) ns).length = (List.set _ 1 _).length
      rw [List.length_set]
      simp [startL, L2.start]
    · match i with
      | 0 => cases e; exact ⟨.ref a, rfl, a, rfl, hidF_seq hTb hS, hl⟩
      | 1 => cases e; exact ⟨.ref dl.a, rfl, rfl⟩
      | i + 2 =>
        have e : (List.replicate (N'.length + 2 - 2) (none : Option Sl))[i]? = some (some t) := e
        rw [List.getElem?_replicate] at e
        split at e <;> cases e
    · match i with
      | 0 => cases e1; cases o1
      | 1 => cases e1; cases o1
      | i + 2 =>
        have e : (List.replicate (N'.length + 2 - 2) (none : Option Sl))[i]? = some (some t) := e1
        rw [List.getElem?_replicate] at e
        split at e <;> cases e
  · unfold runL bnd at go
    rw [show (n1 :: n2 :: N').length = N'.length + 2 from rfl] at go
    cases e : b (startL (N'.length + 2) ns) (ds0 ns) with
    | none => rw [e] at go; cases go
    | some p =>
      obtain ⟨r, s1⟩ := p
      rw [e] at go
      cases r with
      | err x => cases go
      | ok o =>
        cases o with
        | next G => cases go
        | brk G => cases go
        | cont G => cases go
        | ret d =>
          cases go
          exact fun F' H2 v st w r => by
            have r : v = .bl true := r
            rw [r]; exact hQ H2
theorem law_callG {P : Program} {w : World} {K : PySem.W.Frag} {mg mb : Str → Option Value} {cX : CXT} {k : Nat} {fad a : Addr} {cds : List (Addr × Addr)} {fd : FuncData} {xn : Str} {spc : Sp} {sB : Shared} {vl : List Value} {nl : List Int}
    (kin0 : K.In sB.heap) (ns0 : sB.heap.Ns mainGlobals mg) (hb0 : sB.heap.Ns builtinsNs mb) (bb0 : ∀ xn : Str, xn ≠ "__name__" → mb xn = bootBuiltins xn) (lim0 : sB.heap.NoLimit) (hg0 : sB.gens = #[])
    (tb0 : ∀ p ∈ cds, sB.heap.get? p.2 = some { cls := .none, data := .fields #[] }) (nt0 : ∀ p ∈ cds, K.lookup p.2 = none) (Cc : ∀ p ∈ cds, PySem.W.CodeHd sB.heap p.1 p.2)
    (bm0 : ∃ (bm : Addr) (ob : Obj), mg "__builtins__" = some (.ref bm) ∧ bm ≠ builtinsNs ∧ sB.heap.get? bm = some ob ∧ ob.cls = .type "module" ∧ ob.dict = some builtinsNs ∧ ob.data = .plain)
    (ha0 : sB.heap.get? a = some { cls := .type "list", data := .seq vl.toArray }) (ih0 : IntsAre vl nl) (hl0 : nl.length ≤ sizeLine) (rm0 : Room k callerA)
    (Fn : ∀ base : Heap, K.In base → base.Ns mainGlobals mg → (∀ p ∈ cds, LamX.TabB base mg p.1 p.2) → FnOkG P w K mg base cX k fad fd [xn] spc) (bd0 : ∀ (s : Shared) (u : Value), BindsTo s fd ⟨[u], []⟩ [(xn, u)])
    (sp0 : ∀ H : Hp, (∀ p ∈ cds, H p.2 = some (.tbl #[])) → (∀ b, H b = none ∨ b ∈ cds.map (·.2) ∨ ∃ o xs, H b = some (.frz o (.lst xs))) → SqL K H a (nl.map V.int) → spc [.ref a] H (fun v _ => v = .bl true) fun _ _ _ => False)
    (cx0 : ∀ H e s', cX [] H sB (fun _ _ _ => False) e s' → False) :
    codeAny (model P w) callerA (.call (.ref fad) ⟨[.ref a], []⟩) (fun r s' => r = .ok (.ret (.bool true)) ∧ OldK sB.heap s'.heap ∧ s'.os = sB.os ∧ AllBare s'.gens) sB := by
  have rv0 := vals_ints ih0
  have lv0 := ih0.length
  have is0 : ∀ b : Addr, b ∈ cds.map (·.2) → sB.heap.get? b = some { cls := .none, data := .fields #[] } := fun b hb0 => by
    obtain ⟨p, ph0, e⟩ := List.mem_map.mp hb0
    rw [← e]
    exact tb0 p ph0
  have na0 : a ∉ cds.map (·.2) := fun z => by
    have q := is0 a z
    rw [ha0] at q
    have zz : Data.seq vl.toArray _ = Data.fields #[] := congrArg Obj.data (Option.some.inj q)
    cases zz
  have me0 : ∀ p ∈ cds, p.2 ∈ cds.map (·.2) := fun p ph0 => List.mem_map.mpr ⟨p, ph0, rfl⟩
  have main0 : ∀ H : Hp, (∀ p ∈ cds, H p.2 = some (.tbl #[])) → (∀ b, H b = none ∨ b ∈ cds.map (·.2) ∨ ∃ o xs, H b = some (.frz o (.lst xs))) → SqL K H a (nl.map V.int) → HOk P w H sB.heap → (∀ b, H b ≠ none → b = a ∨ b ∈ cds.map (·.2)) → (H a ≠ none → K.lookup a = none) →
      codeAny (model P w) callerA (.call (.ref fad) ⟨[.ref a], []⟩) (fun r s' => r = .ok (.ret (.bool true)) ∧ OldK sB.heap s'.heap ∧ s'.os = sB.os ∧ AllBare s'.gens) sB := by
    intro H hh0 on0 sq0 ok0 at0 lk0
    have bs0 : ∀ {b : Addr} {o : Obj}, sB.heap.get? b = some o → H b = none → (hidT sB.heap H).get? b = some o := fun e n => hidT_get e n
    have nof0 : ∀ {b : Addr} {o : Obj}, sB.heap.get? b = some o → (∀ vl n, o.data ≠ .seq vl n) → o.data ≠ .fields #[] → H b = none := fun {b o} e ha1 ha2 => by
      cases q : H b with
      | none => rfl
      | some u =>
        rcases at0 b (by rw [q]; simp) with ee | ee
        · rw [ee, ha0] at e
          cases e
          exact (ha1 _ _ rfl).elim
        · rw [is0 b ee] at e
          cases e
          exact (ha2 rfl).elim
    have nod0 : ∀ {b : Addr} {o : Obj} {es : Array DictEntry} {epo : Nat}, sB.heap.get? b = some o → o.data = .dict es epo → H b = none := fun {b o es epo} e d => by
      refine nof0 e (fun vl n z => ?_) fun z => ?_
      · rw [d] at z
        cases z
      · rw [d] at z
        cases z
    have nsk0 : ∀ {b : Addr} {m : Str → Option Value}, sB.heap.Ns b m → (hidT sB.heap H).Ns b m := fun {b m} ⟨o, es, epo, e, d, r⟩ => ⟨o, es, epo, bs0 e (nod0 e d), d, r⟩
    have kb0 : K.In (hidT sB.heap H) := fun b o e => bs0 (kin0 b o e) (by
      cases q : H b with
      | none => rfl
      | some u =>
        rcases at0 b (by rw [q]; simp) with ee | ee
        · rw [ee] at e q
          rw [lk0 (by rw [q]; simp)] at e
          cases e
        · obtain ⟨p, ph0, epo⟩ := List.mem_map.mp ee
          rw [← epo, nt0 p ph0] at e
          cases e)
    have md0 : L2.Mod K mg (hidT sB.heap H) := ⟨kb0, nsk0 ns0, ⟨mb, nsk0 hb0, bb0⟩, let ⟨mc, ha1, ha2⟩ := lim0; ⟨mc, nsk0 ha1, ha2⟩⟩
    have tbs : ∀ p ∈ cds, LamX.TabB (hidT sB.heap H) mg p.1 p.2 := fun p ph0 => by
      have tp0 := tb0 p ph0
      refine ⟨?_, ?_, fun z => ?_⟩
      · obtain ⟨o, ul, file, tf, flags, tg, inF, text, tt, ea, r1, r2, r3, r4, r5, r6, r7, r8, hne⟩ := Cc p ph0
        refine ⟨o, ul, file, tf, flags, tg, inF, text, tt, bs0 ea (nof0 ea (fun vl n z => ?_) fun z => ?_), r1, r2, r3, r4, r5, r6, r7, r8, hne⟩
        · rw [r2] at z
          cases z
        · rw [r2] at z
          cases z
          simp at r3
      · obtain ⟨bm, ob, b1, b2, b3, b4, b5, b6⟩ := bm0
        have ng0 : bm ≠ mainGlobals := fun q => by
          obtain ⟨o, es, epo, e, dh0, _⟩ := ns0
          rw [q, e] at b3
          cases b3
          rw [dh0] at b6
          cases b6
        have np0 : bm ≠ p.2 := fun q => by
          rw [q, tp0] at b3
          cases b3
          cases b6
        refine ⟨bm, ob, b1, b2, ng0, np0, bs0 b3 (nof0 b3 (fun vl n z => ?_) fun z => ?_), b4, b5, b6⟩
        · rw [b6] at z
          cases z
        · rw [b6] at z
          cases z
      · obtain ⟨o, es, epo, e, dh0, _⟩ := ns0
        rw [z, tp0] at e
        cases e
        cases dh0
    have en0 : Env0 P w K mg (hidT sB.heap H) callerA [] sB H := ⟨rfl, md0, fun b o e => of_hidT e, Nat.le_of_eq (hidT_size _ _), trivial, fun b hb0 => absurd (show b ∈ ([] : List Addr) from hb0) (by simp), ok0, .of_eq hg0⟩
    refine codeAny_mono ((Fn _ kb0 (nsk0 ns0) tbs).run callerA [] sB H ⟨[.ref a], []⟩ [.ref a] [.ref a] _ _ rm0 rfl en0 (bd0 sB (.ref a)) (.cons rfl .nil) (sp0 H hh0 on0 sq0)) fun r s' h => ?_
    cases r with
    | error e => exact (cx0 H e s' h).elim
    | ok fl =>
      cases fl with
      | next => exact False.elim h
      | brk => exact False.elim h
      | cont => exact False.elim h
      | ret u =>
        obtain ⟨v, H', os0, br0, un0, ok9, rr, q⟩ := h
        have qq : v = .bl true := q
        subst qq
        obtain rfl : u = Value.bool true := rr
        have ky0 : ∀ b o, b ∉ cds.map (·.2) → sB.heap.get? b = some o → s'.heap.get? b = some o := fun b o nb e => by
          cases q : H b with
          | none => exact un0.keep b o e q (by intro z; exact absurd (show b ∈ ([] : List Addr) from z) (by simp)) (by simp)
          | some u =>
            rcases on0 b with z | z | ⟨ob, xs, z⟩
            · rw [q] at z; cases z
            · exact absurd z nb
            · have zz2 := un0.frzs b ob _ z
              obtain ⟨ea, _⟩ := ok0 b _ z
              obtain ⟨eb, _⟩ := ok9 b _ zz2
              rw [e] at ea; cases ea
              exact eb
        have gr0 : ∀ p ∈ cds, ∃ more : Array Value, s'.heap.get? p.2 = some { cls := .none, data := .fields more } := fun p ph0 => by
          obtain ⟨more, z⟩ := un0.tbls p.2 #[] (hh0 p ph0)
          exact ⟨_, ok9 p.2 _ z⟩
        refine ⟨rfl, ⟨fun b o e => ?_, fun b o e => ?_⟩, os0, br0⟩
        · by_cases hb0 : b ∈ cds.map (·.2)
          · obtain ⟨p, ph0, epo⟩ := List.mem_map.mp hb0
            obtain ⟨more, mh0⟩ := gr0 p ph0
            rw [← epo] at e ⊢
            rw [tb0 p ph0] at e
            cases e
            exact .inr (.inl ⟨((Cc p ph0).tab (tb0 p ph0)).isCodeTable, rfl, #[], more, rfl, by rw [Array.empty_append]; exact mh0⟩)
          · exact .inl (ky0 b o hb0 e)
        · by_cases hb0 : b ∈ cds.map (·.2)
          · obtain ⟨p, ph0, epo⟩ := List.mem_map.mp hb0
            obtain ⟨more, mh0⟩ := gr0 p ph0
            rw [← epo]
            exact ⟨_, mh0⟩
          · exact ⟨o, ky0 b o hb0 e⟩
  cases hk0 : K.lookup a with
  | some o =>
    have e := kin0 a o hk0
    rw [ha0] at e
    cases e
    refine main0 (fun b => if b ∈ cds.map (·.2) then some (.tbl #[]) else none) (fun p ph0 => if_pos (me0 p ph0)) (fun b => ?_) (.inr ⟨_, vl.toArray, _, hk0, rfl, rfl, rfl, by rw [List.size_toArray, lv0]; exact hl0, by simpa using rv0⟩) (fun b u z => ?_) (fun b z => ?_) fun z => absurd (show (if a ∈ cds.map (·.2) then some (HO.tbl #[]) else none) = none from if_neg na0) z
    · by_cases hb0 : b ∈ cds.map (·.2)
      · exact .inr (.inl hb0)
      · exact .inl (if_neg hb0)
    · by_cases hb0 : b ∈ cds.map (·.2)
      · have zz := (if_pos hb0).symm.trans z
        cases zz
        exact is0 b hb0
      · have zz := (if_neg hb0).symm.trans z
        cases zz
    · by_cases hb0 : b ∈ cds.map (·.2)
      · exact .inr hb0
      · exact absurd (if_neg hb0) z
  | none =>
    refine main0 (fun b => if b = a then some (.frz { cls := .type "list", data := .seq vl.toArray } (.lst (nl.map V.int))) else if b ∈ cds.map (·.2) then some (.tbl #[]) else none) (fun p ph0 => (if_neg (show ¬ p.2 = a from fun z => na0 (by rw [← z]; exact me0 p ph0))).trans (if_pos (me0 p ph0))) (fun b => ?_)
      (.inl (.inr ⟨{ cls := .type "list", data := .seq vl.toArray }, if_pos rfl⟩)) (fun b u z => ?_) (fun b z => ?_) fun _ => hk0
    · by_cases hb0 : b = a
      · exact .inr (.inr ⟨_, _, if_pos hb0⟩)
      · by_cases hb9 : b ∈ cds.map (·.2)
        · exact .inr (.inl hb9)
        · exact .inl ((if_neg hb0).trans (if_neg hb9))
    · by_cases hb0 : b = a
      · have zz := (if_pos hb0).symm.trans z
        cases zz
        rw [hb0]
        exact ⟨ha0, by rw [List.length_map]; exact hl0, vl, _, rv0, ha0⟩
      · have zz1 := (if_neg hb0).symm.trans z
        by_cases hb9 : b ∈ cds.map (·.2)
        · have zz := (if_pos hb9).symm.trans zz1
          cases zz
          exact is0 b hb9
        · have zz := (if_neg hb9).symm.trans zz1
          cases zz
    · by_cases hb0 : b = a
      · exact .inl hb0
      · by_cases hb9 : b ∈ cds.map (·.2)
        · exact .inr hb9
        · exact absurd ((if_neg hb0).trans (if_neg hb9)) z
/-- what is known of the law's promise at the head's heap -/
theorem walk_ofG {l : PySem.W.OpenLaw} {n k : Nat} {q : Program} {loose : List Str} {XP : (Str → Option Value) → Heap → Prop} {YP : World → Heap → Prop} {d : DefRec} {CX : World → CXT} {x : Str}
    (hn : l.most = some n) (hn2 : n ≤ sizeLine) (hdf : d.params.defaults = []) (hr : Room k callerA)
    (F : ∀ (w : World) (mg : Str → Option Value) (fa : Addr) (h : Heap), YP w h → h.Ns mainGlobals mg → mg d.name = some (.ref fa) →
      ∃ (K : PySem.W.Frag) (fd : FuncData) (cs : List (Addr × Addr)) (sp : Sp), K.In h ∧ (∀ p ∈ cs, h.get? p.2 = some { cls := .none, data := .fields #[] }) ∧ (∀ p ∈ cs, K.lookup p.2 = none) ∧ (∀ p ∈ cs, PySem.W.CodeHd h p.1 p.2) ∧ (∀ (s : Shared) (u : Value), BindsTo s fd ⟨[u], []⟩ [(x, u)]) ∧
        (∀ (H : Hp) (a : Addr) (ns : List Int), ns.length ≤ n → (∀ p ∈ cs, H p.2 = some (.tbl #[])) → (∀ b, H b = none ∨ b ∈ cs.map (·.2) ∨ ∃ o xs, H b = some (.frz o (.lst xs))) → SqL K H a (ns.map V.int) → sp [.ref a] H (fun v _ => v = .bl true) fun _ _ _ => False) ∧
        ∀ base : Heap, K.In base → base.Ns mainGlobals mg → (∀ p ∈ cs, LamX.TabB base mg p.1 p.2) → FnOkG l.prog w K mg base (CX w) k fa fd [x] sp)
    (hCX : ∀ (w : World) (H : Hp) (s : Shared) (e : Value) (s' : Shared), CX w [] H s (fun _ _ _ => False) e s' → False) :
    PySem.W.WalkO q loose XP YP l.row.toRowW d [] (fun f vs => PySem.call f vs) := by
  refine Att.attach_call hn hdf fun w s0 s1 mg mb fa o pm cd doc a vs ns G Y ho hd hcd hmg hobj hints hlen hg => ?_
  obtain ⟨K, fd, cs, sp, KX, hT, nT, C, hb, hsp, hF⟩ := F w mg fa _ Y G.T.g hmg
  exact law_callG KX G.T.g G.T.b G.T.builtins G.T.nolimit hg hT nT C G.T.bmain hobj hints (Nat.le_trans hlen hn2) hr hF hb (fun H hH hO hS => hsp H a ns hlen hH hO hS) fun H e s' => hCX w H s1 e s'
def obsZ (n : Nat) (fa : List He.Fa) (fn : List He.DefD) (fx : List Fx) (gt : List GetD) (tf : List He.Defn) (g : Addr → Option Obj) : AlZ := (obsY fa fn fx gt (He.frT g (He.asD g n)), He.tabsB g tf (He.frT g (He.asD g n)))
def hookZ (n : Nat) (fa : List He.Fa) (fn : List He.DefD) (fx : List Fx) (gt : List GetD) (tf : List He.Defn) : PySem.W.Hook where
  α := AlZ
  obs := fun s => obsZ n fa fn fx gt tf s.heap.get?
  val := fun _ => (((He.valD fn, true), true, gt.map GetD.val), true)
  says := fun _ h => ∃ K : PySem.W.Frag, K.In h ∧ SaysZ fa fn fx gt tf h K
  of := fun _ _ e => ⟨_, He.frT_in, saysZ_of e⟩
  keeps := fun _ _ _ ⟨K, hK, c⟩ k => ⟨K, PySem.W.Frag.In.keeps hK k, ⟨c.y, c.hd, c.out, fun p hp => k _ _ (c.empty p hp)⟩⟩
/-- the tables with the lambdas' names -/
def tabsOf (K : PySem.W.Frag) (tf : List He.Defn) (nm : He.Defn → Str) : List (Addr × Str) := tf.map fun p => ((He.cT K p).2, nm p)
end EK


namespace EK
open PySem PySem.Spec PyProof.Rows L2
/-- super().__init__('..') -/
abbrev supCall (msg : Str) (j : Nat) (p0 p1 p2 p3 p4 : Pos) : Expr := .Call (.Attribute (.Call (.Name "super" p0) [] [] p1) "__init__" p2) [.Constant (.str msg) j p3] [] p4
/-- how it is run, by its place -/
def supRuns (env : Env) (msg fld : Str) (j : Nat) (p0 p1 p2 p3 p4 p5 p6 p7 p8 p9 : Pos) : Prop :=
  (∃ pl : Sem Bool, eval (supCall msg j p0 p1 p2 p3 p4) env = (do
      let ov ← attributeBase (.Call (.Name "super" p0) [] [] p1) "__init__" env (eval (.Call (.Name "super" p0) [] [] p1) env)
      standAt p2.atName
      let (f, first) ← holding [ov] (getMethod ov "__init__" pl)
      callWith p4 f first (backTo p4 (starEach [.Constant (.str msg) j p3] env)) [])) ∧
    swapsWith (supCall msg j p0 p1 p2 p3 p4) none p5.line env = pure false ∧ swapsWith (.Name fld p8) (some (.Attribute (.Name "self" p6) fld p7)) p9.line env = pure false
/-- the body of such an __init__ -/
def supBody (msg fld : Str) (j : Nat) (p0 p1 p2 p3 p4 p5 p6 p7 p8 p9 : Pos) : List Stmt :=
  [.Expr (supCall msg j p0 p1 p2 p3 p4) p5, .Assign [.Attribute (.Name "self" p6) fld p7] (.Name fld p8) p9]
/-- what the written part says of such a class -/
structure SupC (prog : Program) (K : PySem.W.Frag) (C fI : Addr) (fld : Str) : Prop where
  ox : OexC K C
  no : PySem.W.findIn K (.ref C) fld = some none
  iC : PySem.W.findIn K (.ref C) "__init__" = some (some (.ref fI))
  tI : PySem.W.typeIn K (.ref fI) = some (.type "function")
  me : PySem.W.mroIn K C (.ref C) = some true
  ve : PySem.W.subIn K (.ref C) (.type "ValueError") = some true
  su : PySem.W.ks_superIn K C C "__init__" = some (some (.builtin "ValueError.__init__"))
  op : PySem.W.nsIn K cStatics "thirdparty.any" = some none
  ng : PySem.W.nsIn K mainGlobals "super" = some none
  top : (prog.main.scope.names.lookup ("super" : Str)).isSome = false
  fn : ∃ (oc : Value) (od : Option Addr) (osl : Array (Option Value)) (qual : Str) (params : Arguments) (scope : Scope) (dV kV doc pm ct : Value) (an : Option Addr) (cda cc : Addr) (msg : Str) (j : Nat) (p0 p1 p2 p3 p4 p5 p6 p7 p8 p9 : Pos),
    K.lookup fI = some ⟨oc, od, .func (PySem.W.ksFn "__init__" qual params (supBody msg fld j p0 p1 p2 p3 p4 p5 p6 p7 p8 p9) scope dV kV doc pm an (.ref cda) ct cc), osl⟩ ∧ PySem.W.codeIn K (.ref cda) qual = true ∧
    (∃ (ccl : Value) (cdd : Option Addr) (vs : Array Value) (ccs : Array (Option Value)) (file : Str) (tf : Tok), K.lookup cda = some ⟨ccl, cdd, .fields vs, ccs⟩ ∧ vs[2]? = some (.str file tf) ∧ ((prog.main.file : Str) == file) = true) ∧
    (∃ (cl : Value) (cld : Option Addr) (csl : Array (Option Value)), K.lookup cc = some ⟨cl, cld, .cell (some (.ref C)), csl⟩) ∧
    (∀ (s : Shared) (a b : Value), BindsTo s (PySem.W.ksFn "__init__" qual params (supBody msg fld j p0 p1 p2 p3 p4 p5 p6 p7 p8 p9) scope dV kV doc pm an (.ref cda) ct cc) ⟨[a, b], []⟩ [("self", a), (fld, b)]) ∧
    (∃ ar : Arg, (params.posonlyargs ++ params.args).head? = some ar ∧ ar.arg = "self") ∧
    (∀ x ∈ scope.names, x.2 ≠ .cell) ∧ scope.isCoroutine = false ∧ scope.isGenerator = false ∧ scope.kind = .function ∧
    scope.names.lookup ("super" : Str) = some .globalImplicit ∧ scope.names.lookup ("__class__" : Str) = some .free ∧ scope.names.lookup ("self" : Str) = some .local ∧ scope.names.lookup fld = some .local ∧ (fld == ("__debug__" : Str)) = false ∧ (("self" : Str) == fld) = false ∧ ∀ L : Addr, supRuns (PySem.W.ksEnv qual scope L fI (.ref cda) cc) msg fld j p0 p1 p2 p3 p4 p5 p6 p7 p8 p9
section
variable {prog : Program} {w : World} {A : Around} {K : PySem.W.Frag} {C fI e t0 : Addr} {fld : Str} {u : Value} {R : Result → Shared → Prop} {mg mb : Str → Option Value}
open PySem.W PySem.Calls in
theorem sup_init {s : Shared} (T : SupC prog K C fI fld) (X : K.In s.heap) (gl : s.heap.Ns mainGlobals mg) (bl : s.heap.Ns builtinsNs mb) (hbb : ∀ x : Str, x ≠ "__name__" → mb x = bootBuiltins x) (lim : s.heap.NoLimit) (room : A.depth < recursionLimit)
    (hKe : K.lookup e = none) (he : s.heap.get? e = some (HandSPX.excO C t0))
    (hq : ∀ h' tk' dx t1, (∀ b o, b ≠ e → s.heap.get? b = some o → h'.get? b = some o) → s.heap.objs.size ≤ dx → dx ≠ e → h'.get? e = some ({ cls := .ref C, dict := some dx, data := .fields #[.ref t1, .none, .none, .none, .bool false, .none] } : Obj) →
      h'.Ns1 dx (fun y => if y = fld then some u else none) → R (.ok (.ret .none)) { s with heap := h', toks := tk' }) :
    codeAny (model prog w) A (.call (.ref fI) ⟨[.ref e, u], []⟩) R s := by
  obtain ⟨nm, q, N, bs, bm, sn, sub, ab, col, dd, k0, k1, k2, k3, k5, hC, hbm⟩ := T.ox.cls
  obtain ⟨oc, od, osl, qual, params, scope, dV, kV, doc, pm, ct, an, cda, cc, msg, j, p0, p1, p2, p3, p4, p5, p6, p7, p8, p9, lk, hcd, ⟨ccl, cdd, vs, ccs, file, tf, hcode, hvs, hfile⟩, ⟨cl, cld, csl, hcell⟩, hbind, ⟨ar, hp, har⟩, hnc, hco, hgen, hk, hks, hkc, hka, hkf, hfd, hsf, hrun⟩ := T.fn
  have hcl : clsIn K C = some { name := nm, bases := bs, mro := .ref C :: bm, ns := N, qualname := q, hasDict := true, slotNames := sn, subclasses := sub, abstract := ab, collection := col, hasDel := false } := by unfold clsIn; rw [hC] <;> rfl
  refine ks_codeAny_call_defAt room (X _ _ lk) rfl lim (codeRec_of X hcd) rfl (hbind s (.ref e) u) hnc (fun y hy => ?_) (fun h0 ns0 k0' => ?_) hco hgen hk
  · simp only [List.mem_cons, List.not_mem_nil, or_false] at hy
    rcases hy with rfl | rfl
    · exact hka
    · exact hkf
  have lte : e < s.heap.objs.size := Heap.lt_size he
  have X0 : K.In h0 := X.keeps k0'
  have he0 := k0' _ _ he
  have hself : (fun x => ([("self", Value.ref e), (fld, u)] : List (Str × Value)).reverse.lookup x) "self" = some (.ref e) := by
    show ([(fld, u), ("self", Value.ref e)] : List (Str × Value)).lookup ("self" : Str) = _
    rw [List.lookup_cons, hsf]
    rfl
  have hfld : (fun x => ([("self", Value.ref e), (fld, u)] : List (Str × Value)).reverse.lookup x) fld = some u := by
    show ([(fld, u), ("self", Value.ref e)] : List (Str × Value)).lookup fld = _
    rw [List.lookup_cons, beq_self_eq_true]
  show _root_.PySem.wpAt (model prog w) _ _ (execs (supBody msg fld j p0 p1 p2 p3 p4 p5 p6 p7 p8 p9) (ksEnv qual scope s.heap.objs.size fI (.ref cda) cc)) _ _ _
  obtain ⟨⟨pl, hev⟩, hsw1, hsw2⟩ := hrun s.heap.objs.size
  refine ks_wpAt_execs_cons (ks_wpAt_Expr_any (ks_wpAt_MethodCall ?_ hev) (by simp [interactive, hk]) hsw1)
  refine ks_wpAt_super_base (env := ksEnv qual scope s.heap.objs.size fI (.ref cda) cc) hks hkc (by decide) rfl (X0 _ _ lk) rfl hp rfl (X0 _ _ hcode) rfl hvs hfile T.top ?_
  refine ks_loadName_global hk hks (loadGlobal_builtin (env := ksEnv qual scope s.heap.objs.size fI (.ref cda) cc) (gl.keeps k0') (mg_none_of X gl T.ng) (bl.keeps k0') ((hbb _ (by decide +kernel)).trans (by decide +kernel)) ⟨rfl, ?_⟩)
  refine wpAny_loadName_free hk hkc rfl ⟨_, X0 _ _ hcell, rfl⟩ ?_
  rw [har]
  refine wpAny_loadName_local hk hka ns0 hself ?_
  refine ks_wpAny_isType_cls (X0 _ _ hC) rfl ⟨rfl, ?_⟩
  refine ks_wpAny_call_super (X0 _ _ hC) rfl he0 rfl (fun c z => by cases z) (looks_mroIn X0 T.me) (fun h1 hso k1' => ?_)
  have kA : ∀ b o, s.heap.get? b = some o → h1.get? b = some o := fun b o z => k1' b o (k0' b o z)
  have X1 : K.In h1 := X0.keeps k1'
  have he1 := k1' _ _ he0
  have I1 : W.InstAt h1 e (HandSPX.excO C t0) C none := ⟨he1, rfl, rfl, trivial⟩
  have LT : Looks (model prog w) h1 (typeOf (.ref e)) (.ref C) := fun A Q E s k q => wpAny_typeOf_ref (k _ _ he1) q
  have su := T.su
  unfold ks_superIn at su
  rw [hcl] at su
  refine kxs_getMethod kxs_ValueError hso (looks_opaque X1 T.op) (l₀ := .ref C :: bm) (fun A Q E s k q => wpAny_bind ((looks_clsIn X1 hcl) A _ E s k (wpAny_pure q))) rfl X1 su (LT.andThen (looks_subIn X1 T.ve)) (ks_ne X1 I1 hcl) (by decide) ?_
  have lt1 : e < h1.objs.size := Heap.lt_size he1
  have kB : ∀ b o, h1.get? b = some o → (h1.push (kxs_mw "ValueError.__init__" e)).get? b = some o := fun b o z => Heap.get?_push_of_some _ z
  have hu : (h1.push (kxs_mw "ValueError.__init__" e)).get? h1.objs.size = some (kxs_mw "ValueError.__init__" e) := Heap.get?_push_at rfl rfl
  refine kxs_callWith (i := "ValueError.__init__") (x := e) rfl (evalArgs_plain ?_)
  show wpAny _ _ (spliced ((false, eval (.Constant (.str msg) j p3) _) :: [])) _ _ _
  refine Calls.spliced_cons (Calls.Constant_str (Calls.spliced_nil ⟨hu, ?_⟩))
  have he2 := kB _ _ he1
  refine wpAny_call (codeAny_of_tree ?_)
  show wpAny _ _ (callAny (.ref h1.objs.size) ⟨[.str msg _], []⟩) _ _ _
  simp only [callAny]
  refine wpAny_bind (wpAny_load hu ?_)
  simp only [show (Value.type "method-wrapper" == Value.type "method" || Value.type "method-wrapper" == Value.type "builtin_function_or_method" || Value.type "method-wrapper" == Value.type "method-wrapper") = true by decide, if_true]
  refine KFB.if_so (by decide) ?_
  refine wpAny_bind (check_bound_init F.excBase_ValueError.toExcCallFacts (kB _ _ (X1 _ _ hC)) he2 rfl ?_)
  refine wpAny_bind (wpAny_pure (wpAny_pure ?_))
  refine ⟨plainId_quiet F.excBase_ValueError.init.plain _, codeAny_builtin F.excBase_ValueError.initEntry ?_⟩
  refine exc_init_tree (cls := .ref C) (t0 := t0) (dv := none) (c2 := .none) (c3 := .none) (b4 := .bool false) he2 (by show 1 ≤ sizeLine; rw [sizeLine_eq]; omega) fun h3 k3' he3 _ => ?_
  have neL : s.heap.objs.size ≠ e := fun z => absurd lte (by rw [← z]; exact Nat.lt_irrefl _)
  have kC : ∀ b o, b ≠ e → h0.get? b = some o → h3.get? b = some o := fun b o hb z => k3' b o hb (kB b o (k1' b o z))
  have ns3 : h3.Ns s.heap.objs.size (fun x => ([("self", Value.ref e), (fld, u)] : List (Str × Value)).reverse.lookup x) := by
    obtain ⟨o, es, ep, z1, z2⟩ := ns0
    exact ⟨o, es, ep, kC _ _ neL z1, z2⟩
  have X3 : K.In h3 := fun b o z => k3' b o (fun y => by rw [y, hKe] at z; cases z) (kB _ _ (X1 b o z))
  show _root_.PySem.wpAt (model prog w) _ _ (execs [.Assign [.Attribute (.Name "self" p6) fld p7] (.Name fld p8) p9] (ksEnv qual scope s.heap.objs.size fI (.ref cda) cc)) _ _ _
  refine ks_wpAt_execs_cons (ks_wpAt_Assign_Attr (wpAt_of_wpAny (wpAny_Name (wpAny_loadName_local hk hkf ns3 hfld (wpAny_Name (wpAny_loadName_local hk hka ns3 hself ?_) (by decide))) hfd)) hsw2)
  have he3' : h3.get? e = some ({ cls := .ref C, data := .fields #[.ref (h1.push (kxs_mw "ValueError.__init__" e)).objs.size, .none, .none, .none, .bool false, .none] } : Obj) := he3
  refine set_plain X3 (ox := { cls := .ref C, data := .fields #[.ref (h1.push (kxs_mw "ValueError.__init__" e)).objs.size, .none, .none, .none, .bool false, .none] }) (od := none) ⟨he3', rfl, rfl, trivial⟩ T.ox.sa ?_
  refine HandSPX.exc_osa X3 he3' hcl (show HandSPX.refsVE (.ref C :: bm) = true from hbm) rfl T.no (fun h' tk' dx k4 dn dne hx hn => ?_)
  refine wpAt_of_wpAny (wpAny_execs_nil ?_)
  refine hq h' tk' dx _ (fun b o hb z => k4 b o hb (kC b o hb (k0' b o z))) ?_ dne hx hn
  have l0 : s.heap.objs.size < h0.objs.size := by
    obtain ⟨o, es, ep, z1, z2⟩ := ns0
    exact Heap.lt_size z1
  obtain ⟨o, es, ep, z1, z2⟩ := ns3
  exact Nat.le_of_lt (Nat.lt_of_lt_of_le (Heap.lt_size z1) dn)
end
section
variable {X : Cx} {e : Expr} {te : TE} {p pos : Pos} {x fld : Str} {C fI : Addr}
theorem pmk_sup {k : Nat} {ta : TA} (T : SupC X.prog X.K C fI fld) (hr : Room (k + 1) X.A) (hg : Gl X x) (hm : X.mg x = some (.ref C)) (ha : PA X [e] ta) (hdb : (x == ("__debug__" : Str)) = false := by decide)
    (hs : starEach [e] X.env = (false, eval e X.env) :: starEach [] X.env := by rfl) :
    PMk X (.Call (.Name x p) [e] [] pos) (fun sg H Q => ta sg H fun vs H1 => ∃ v, vs = [v] ∧ ∀ d, H1 d = none → Q (.ref C) (some d) (upd H1 d (.xd [(fld, v)]))) := by
  intro pins s sg H Q I h
  obtain ⟨nm, q, N, bs, bm, sn, sub, ab, col, dd, k0, k1, k2, k3, k5, hC, hbm⟩ := T.ox.cls
  refine wpAny_Call_Name_kw (ld_glob I hg hm ?_ hdb)
  refine PySem.W.callWith_K (h₀ := X.base) I.ok.mod.kin T.ox.kC (thn (ha.run pos pins s sg H _ I h) fun us s1 ⟨vs, H1, I1, r1, v, ev, q1⟩ => ⟨I1.kIn, ?_⟩) hs
  subst ev
  obtain ⟨u, rfl, ru⟩ := vals1 r1
  show wpAny _ _ (call (.ref C) [u]) _ _ _
  obtain ⟨hp, g, dr, tk, os⟩ := s1
  have kk : ∀ b o, hp.get? b = some o → ((hp.push (PySem.W.kdv_tup [u])).push (PySem.HandSPX.excO C hp.objs.size)).get? b = some o := fun b o e => Heap.get?_push_of_some _ (Heap.get?_push_of_some _ e)
  have hget : ((hp.push (PySem.W.kdv_tup [u])).push (PySem.HandSPX.excO C hp.objs.size)).get? (hp.objs.size + 1) = some (PySem.HandSPX.excO C hp.objs.size) := by heap_get
  have hsz : hp.objs.size ≤ hp.objs.size + 1 := Nat.le_succ _
  have hKe : X.K.lookup (hp.objs.size + 1) = none := by
    cases z : X.K.lookup (hp.objs.size + 1) with
    | none => rfl
    | some o =>
      have := Heap.lt_size (I1.kIn _ _ z)
      exact absurd this (by show ¬ (hp.objs.size + 1 < hp.objs.size); omega)
  obtain ⟨mb, hb1, hb2⟩ := I1.mod.blt
  refine wpAny_call (PySem.HandSPX.call_own F.excBase_ValueError (fun Y => PySem.HandSPX.refsVE_contains Y bm hbm) (I1.kIn _ _ hC) (PySem.W.looks_findIn I1.kIn T.iC) (fun self => PySem.W.bind_fn I1.kIn self T.tI) (by show 1 ≤ sizeLine; rw [sizeLine_eq]; omega)
    (sup_init (mg := X.mg) (mb := mb) T (I1.kIn.keeps kk) ((I1.mod.glob.keeps I1.bk).keeps kk) ((hb1.keeps I1.bk).keeps kk) hb2 (I1.nolimit.keeps kk) (hr.make C [u] []).depth hKe hget fun h2 tk2 dx t1 k2' dn dne hx hn => ⟨rfl, ?_⟩))
  obtain ⟨G, g1, g2⟩ := restrict h2 fun b => decide (b ≠ hp.objs.size + 1)
  have gk : ∀ b, b ≠ hp.objs.size + 1 → G.get? b = h2.get? b := fun b hb => g1 b (decide_eq_true hb)
  have ge : G.get? (hp.objs.size + 1) = none := g2 _ (by simp)
  have dn' : hp.objs.size ≤ dx := Nat.le_trans (Nat.le_trans (Nat.le_succ _) (Nat.le_succ _)) (by simpa using dn)
  have kG : ∀ b o, hp.get? b = some o → G.get? b = some o := fun b o z => by
    have hb : b ≠ hp.objs.size + 1 := fun y => by
      have y2 : b < hp.objs.size := Heap.lt_size z
      rw [y] at y2
      exact absurd y2 (by show ¬ (hp.objs.size + 1 < hp.objs.size); omega)
    rw [gk b hb]
    exact k2' b o hb (kk b o z)
  have new : ObjOk X.prog X.w (upd H1 dx (.xd [(fld, v)])) G dx (.xd [(fld, v)]) := ⟨_, hn.at fun o y => (gk dx dne).trans y, relO_put (fs := []) ru fun g => True.intro⟩
  have J := I1.laid (t' := tk2) (a := dx) (o := .xd [(fld, v)]) (h' := G) kG dn' new
  have nd1 : H1 dx = none := I1.hok.fresh dn'
  refine ⟨hp.objs.size + 1, _, _, ⟨G, g, dr, tk2, os⟩, _, .ref C, some dx, rfl, J, fun b o z => ?_, ge, hx, ⟨rfl, rfl⟩, rfl, rfl, ?_, rfl, I1.bare, raises_own T.ox.exC T.ox.tyC, q1 dx nd1⟩
  · by_cases hb : b = hp.objs.size + 1
    · rw [hb, ge] at z; cases z
    · exact (gk b hb).symm.trans z
  · rw [upd_ne (Ne.symm dne)]
    exact I1.hok.fresh hsz
end
end EK


namespace EK
open PySem PySem.Spec PyProof.Rows L2
section
variable {X : Cx} {dl : Dr} {W : WX} {pos p cp p2 : Pos} {x m fld : Str} {j : Nat} {e : Expr} {f : SE} {C fI : Addr}
/-- raise C('..') -/
def sThrow0 (c : Str) : SS := fun _ => throw ⟨c, [], []⟩
/-- raise C(e) -/
def sThrow1 (c fld : Str) (f : SE) : SS := fun G => bnd (f G) fun d => throw ⟨c, [fld], [d]⟩
/-- what is known of a class without an __init__ of its own -/
structure Exc0 (K : PySem.W.Frag) (mg : Str → Option Value) (c : Str) : Prop where
  ex : ∃ C, mg c = some (.ref C) ∧ PySem.W.excIn K C [.type "ValueError", .type "Exception", .type "BaseException", .type "object"] "ValueError.__new__" = true ∧ PySem.W.keepIn K (.ref C) = true ∧ PySem.W.subIn K (.ref C) (.type "BaseException") = some true ∧ PySem.W.typeIn K (.ref C) = some (.type "type")
structure Exc1 (prog : Program) (K : PySem.W.Frag) (mg : Str → Option Value) (c fld : Str) : Prop where
  ex : ∃ C fI, mg c = some (.ref C) ∧ SupC prog K C fI fld
theorem ds_raise0 (T : Exc0 X.K X.mg x) (hc : X.calm = true) (tk : Takes X W) (hg : Gl X x := by rfl) (hdb : (x == ("__debug__" : Str)) = false := by decide) :
    DSt X dl W (.Raise (some (.Call (.Name x p) [.Constant (.str m) j p2] [] cp)) none pos) (sThrow0 x) := by
  obtain ⟨C, h1, h2, h3, h4, h5⟩ := T.ex
  refine PS.of (ps_raise hc tk (pmk_own F.excBase_ValueError h2 h1 h3 (raises_own h4 h5) hg hdb)) fun E sg H q => ?_
  obtain ⟨F0, H0, F, G, s, w, S, g⟩ := q
  exact g F H sg (.ref C) none S.st w ⟨C, h1, rfl, .inl ⟨rfl, rfl, rfl⟩⟩
theorem ds_raise1 {k : Nat} (T : Exc1 X.prog X.K X.mg x fld) (hc : X.calm = true) (hr : Room (k + 1) X.A) (tk : Takes X W) (he : DE X dl W e f) (hg : Gl X x := by rfl) (hdb : (x == ("__debug__" : Str)) = false := by decide)
    (hs : starEach [e] X.env = (false, eval e X.env) :: starEach [] X.env := by rfl) :
    DSt X dl W (.Raise (some (.Call (.Name x p) [e] [] cp)) none pos) (sThrow1 x fld f) := by
  obtain ⟨C, fI, h1, h2⟩ := T.ex
  refine PS.of (ps_raise hc tk (pmk_sup h2 hr hg h1 (pa_cons he pa_nil hs) hdb hs)) fun E sg H q => ?_
  obtain ⟨F0, H0, F, G, s, w, S, g⟩ := q
  refine ⟨F, F0, H0, G, s, w, S, (g.ex S.st).imp fun d s1 F1 H1 st1 w1 g1 v rv => ⟨v, rfl, fun dx hdx => ?_⟩⟩
  refine g1 (upd F1 dx (.xd [(fld, v)])) (upd H1 dx (.xd [(fld, v)])) sg (.ref C) (some dx) ((S.st.trans st1).trans (Step.new w1 hdx)) (w1.new hdx) ⟨C, h1, rfl, .inr ⟨by simp, dx, [v], rfl, upd_same, rfl, ?_⟩⟩
  exact ⟨v, [], rfl, Rep.mono (Step.new w1 hdx).fs d v rv, rfl⟩
end
theorem exK_ok {P : Program} {w : World} {H : Hp} {h : Heap} {a : Addr} {cls : Value} {d : Option Addr} {oe : Obj} {vs : Array Value} (e : h.get? a = some oe) (z : Zc cls d oe) (hd : oe.data = .fields vs) : ObjOk P w H h a (ExK a cls d) :=
  ⟨⟨oe, vs, e, z, hd⟩, ⟨oe, e⟩, fun _ _ ⟨o, v, q, r⟩ k => ⟨o, v, k o q, r⟩⟩
theorem exK_at {P : Program} {w : World} {H : Hp} {h : Heap} {a : Addr} {cls : Value} {d : Option Addr} (hok : HOk P w H h) (he : H a = some (ExK a cls d)) : ∃ (oe : Obj) (vs : Array Value), h.get? a = some oe ∧ Zc cls d oe ∧ oe.data = .fields vs := by
  have x : ObjOk P w H h a (.ext fun h => ∃ (oe : Obj) (vs : Array Value), h.get? a = some oe ∧ Zc cls d oe ∧ oe.data = .fields vs) := hok a _ he
  exact x.1
section
variable {X : Cx} {x n : Str} {c : Value} {i : Nat} {body suite : List Stmt} {b₀ : Stmt} {np pos pos' : Pos} {tb : WX → TS} {ts : Addr → Value → Option Addr → TS} {Wout : WX}
/-- what the clause wishes of an exception of the body -/
def wKp (K : PySem.W.Frag) (c : Value) (l i : Nat) (ts : Addr → Value → Option Addr → TS) (Wout : WX) (D : Ends) : WX := fun cls d sg H => sg.length = l →
  ∃ b, PySem.W.exmOne K cls c = some b ∧ (b = true → ∀ a, H a = none → ts a cls d { nx := fun sg' H' => D.nx (sg'.set i none) H', rt := D.rt, bk := fun sg' H' => D.bk (sg'.set i none) H', ct := fun sg' H' => D.ct (sg'.set i none) H' } (sg.set i (some (.ref a))) (upd H a (ExK a cls d))) ∧
    (b = false → Wout cls d sg H)
theorem Inv.suite0 {pins : List (Addr × Obj)} {sg : L2.St} {H : Hp} {s : Shared} (I : Inv X pins sg H s) (a : Addr) : Inv (X.suite a (X.pn ++ pins)) [] sg H s :=
  ⟨I.ok.suite _ _, I.os, I.bare, I.base, I.loc, I.cell, I.free, I.freeC, fun p hp => I.pin p (by rw [List.append_nil] at hp; exact hp), I.hok, I.len⟩
theorem Inv.unsuite0 {pins : List (Addr × Obj)} {sg : L2.St} {H : Hp} {s : Shared} {a : Addr} {pn' : List (Addr × Obj)} (I : Inv (X.suite a (X.pn ++ pins)) pn' sg H s) (ok : X.Ok) : Inv X pins sg H s :=
  ⟨ok, I.os, I.bare, I.base, I.loc, I.cell, I.free, I.freeC, fun p hp => I.pin p (List.mem_append_left _ hp), I.hok, I.len⟩
theorem ps_try_kept (stk : X.stack = X.env :: X.outer) (frm : X.env.frame = some X.env.locals) (nodu : X.N.Nodup) (ati : X.N[i]? = some n) (isl : X.env.kindOf n = some .local) (nam : L2.Names X x c) (tkO : Takes X Wout)
    (bdy : ∀ (W : WX) (pn : List (Addr × Obj)) (xe : Value → Shared → Prop), Takes (X.tr pn xe) W → PassesOwn (model X.prog X.w) X.A X.env xe → PSs (X.tr pn xe) body (tb W))
    (sui : ∀ (a : Addr) (cls : Value) (d : Option Addr) (pn : List (Addr × Obj)), PSs (X.suite a pn) (b₀ :: suite) (ts a cls d)) :
    PS X (.Try body [.ExceptHandler (some (.Name x np)) (some n) (b₀ :: suite) pos'] [] [] pos) (fun D sg H => tb (wKp X.K c X.N.length i ts Wout D) D sg H) := by
  refine ⟨fun pins s sg H D I0 rd => ?_⟩
  have okX := I0.ok
  have fram : X.A.frames = some (X.env :: X.outer) := by rw [okX.frames, stk]
  have locn : Loc X.env.scope n := .inl isl
  refine wpAny_Try_except ?_
  refine wpAny_mono ((bdy (wKp X.K c X.N.length i ts Wout D) (X.pn ++ pins) (fun e s₁ => wpAny (model X.prog X.w) X.A (noteFrame e X.env) (fun _ s₂ => wpAny (model X.prog X.w) X.A (setFlight e none) (fun _ s₃ =>
    wpAny (model X.prog X.w) X.A (handleBy e X.env [.ExceptHandler (some (.Name x np)) (some n) (b₀ :: suite) pos']) (SP X pins D) X.xe s₃) X.xe s₂) X.xe s₁) (fun u s' fly => ?_) PassesOwn.looking).run [] s sg H D (I0.toTry _) rd) (fun f s1 spq => ?_) (fun e s1 z => z)
  · obtain ⟨a, B, sI, pins2, sg2, H2, cls, d, rfl, Jt, nob, upI, sky, noA, oss, bar, wz⟩ := fly
    obtain ⟨b, hb1, yes, nay⟩ := wz Jt.len
    have J : Inv X pins sg2 H2 sI := Jt.ofTry okX
    have sky2 : Sky B (X.env :: X.outer) a (Zc cls d) X.env.locals s'.heap := by rw [← stk]; exact sky
    show wpAny (model X.prog X.w) X.A (noteFrame (.ref a) X.env) _ _ _
    refine Sky.land Zc.steady fram frm sky2 fun h3 fl3 up3 => ?_
    have J3 : Inv X pins sg2 H2 { s' with heap := h3 } := J.landed nob fl3.1 (upI.trans up3) oss bar
    obtain ⟨oe3, vs3, at3, z3, dat3⟩ := fl3.there
    have outF : ∀ {h : Heap} {o : Obj} {vs : Array Value}, h.FunFrames B (X.env :: X.outer) → h.get? a = some o → o.data = .fields vs → a ∉ frs (X.env :: X.outer) := fun {h o vs} ff e dd hm => by
      obtain ⟨_, o', e', hnf⟩ := ff.mem hm
      rw [e] at e'
      cases e'
      exact hnf _ dd
    have outA := outF fl3.2.2.1 at3 dat3
    have notL : a ≠ X.env.locals := fun z => outA (List.mem_filterMap.mpr ⟨X.env, List.mem_cons_self, by rw [frm, z]⟩)
    have notF : a ∉ X.fs := fun hm => by
      obtain ⟨e, he, q⟩ := List.mem_filterMap.mp hm
      exact outA (List.mem_filterMap.mpr ⟨e, List.mem_cons_of_mem _ he, q⟩)
    have S3 := J3.suite at3 dat3 noA notL notF
    refine wpAny_handleBy_cons (codeAny_handlers_test ?_) (by intro q; cases q)
    have lt : PySem.W.Looks (model X.prog X.w) h3 (typeOf (.ref a)) cls := fun A Q E s k q => wpAny_typeOf_ref (k _ _ at3) (by rw [z3.1]; exact q)
    have lm := PySem.W.exm_one (M := model X.prog X.w) (J3.kIn) lt hb1
    have tst : ∀ {Q : Value → Shared → Prop} {E : Value → Shared → Prop}, Q c { s' with heap := h3 } → wpAny (model X.prog X.w) (X.A.mark (some (.ref a))) (eval (.Name x np) X.env) Q E { s' with heap := h3 } := fun {Q E} q => by
      obtain ⟨hg, hdbg, hm | ⟨hm, hv, hnn⟩⟩ := nam
      · exact ld_glob (X := X.suite a ((a, oe3) :: (X.pn ++ pins))) S3 hg hm q hdbg
      · exact ld_blt (X := X.suite a ((a, oe3) :: (X.pn ++ pins))) S3 hg hm hv q hnn hdbg
    refine tst (lm.here ?_)
    cases b with
    | true =>
      refine codeAny_handlers_suite_as ?_
      refine HandSPX.lands_againZ fl3 fun h4 fl4 up4 => ?_
      obtain ⟨oe4, vs4, at4, z4, dat4⟩ := fl4.there
      obtain ⟨G, g1, g2⟩ := restrict h4 fun b => decide (b ≠ a)
      have gk : ∀ b, b ≠ a → G.get? b = h4.get? b := fun b hb => g1 b (decide_eq_true hb)
      have ga : G.get? a = none := g2 a (by simp)
      have Ba : B.get? a = none := fl4.2.1
      have stG : B.StaysIn G := fun b o z => by
        rw [gk b (fun y => by rw [y, Ba] at z; cases z)]
        exact fl4.1 b o z
      have upG : sI.heap.UpToSlots G := fun b o z hn => by
        have nb2 : b ≠ a := fun y => by
          subst y
          have := nob b o z (by rw [stk]; exact outA)
          rw [Ba] at this
          cases this
        rw [gk b nb2]
        exact ((upI.trans up3).trans up4) b o z hn
      have J4 : Inv X pins sg2 H2 { s' with heap := G } := J.landed nob stG upG oss bar
      have T4 : Inv X pins sg2 (upd H2 a (ExK a cls d)) { s' with heap := h4 } := J4.laidN (h' := h4) (t' := s'.toks) (fun b u z => (gk b (fun y => by rw [y, ga] at z; cases z)).symm.trans z) ga noA (exK_ok at4 z4 dat4)
      refine store_ok (X := X.suite a (X.pn ++ pins)) (v := .ref a) (Inv.suite0 T4 a) nodu ati locn rfl (fun s5 S5 => ?_) (.inr isl)
      refine wpAny_mono ((sui a cls d (X.pn ++ pins)).run [] s5 _ _ _ S5 (yes rfl a noA)) (fun f s6 spq => ?_) (fun _ _ z => False.elim z)
      have fin : ∀ {sg6 : L2.St} {H6 : Hp} {Q : Shared → Prop}, Inv (X.suite a (X.pn ++ pins)) [] sg6 H6 s6 → (∀ s7, Inv X pins (sg6.set i none) H6 s7 → Q s7) →
          wpAny (model X.prog X.w) X.A (do bindName X.env n .none; unbindBehindTheSuite X.env n pos') (fun _ s7 => Q s7) X.xe s6 := fun {sg6 H6 Q} S6 hq => gone_ok (Inv.unsuite0 S6 okX) nodu ati isl hq
      match f, spq with
      | .next, z => obtain ⟨sg6, H6, S6, q6⟩ := z; exact fin S6 fun s7 J7 => ⟨_, _, J7, q6⟩
      | .brk, z => obtain ⟨sg6, H6, S6, q6⟩ := z; exact fin S6 fun s7 J7 => ⟨_, _, J7, q6⟩
      | .cont, z => obtain ⟨sg6, H6, S6, q6⟩ := z; exact fin S6 fun s7 J7 => ⟨_, _, J7, q6⟩
      | .ret u, z => obtain ⟨v6, sg6, H6, S6, r6, q6⟩ := z; exact fin S6 fun s7 J7 => ⟨_, _, _, J7, r6, q6⟩
    | false =>
      show wpAny _ X.A (handleBy (.ref a) X.env []) _ _ _
      refine wpAny_handleBy_nil ?_
      obtain ⟨k1, k2, k3, oe, vs, Tt, oT, ts', he, hz, hd, h1, hr⟩ := id fl3
      unfold PySem.passOn
      refine wpAny_bind (wpAny_field he hd h1 ?_)
      rw [if_neg (show ¬ ((Value.ref Tt == Value.none) = true) from by simp)]
      have out2 : wpAny (model X.prog X.w) X.A (setFlight (.ref a) X.env.frame) (fun _ s4 => wpAny (model X.prog X.w) X.A (MonadExcept.throw (Value.ref a) : Sem Flow) (SP X pins D) X.xe s4) X.xe { s' with heap := h3 } := by
        rw [frm]
        refine HandSPX.setFlight_upZ fl3 fun h4 hh4 up4 => wpAny_throw (tkO _ _ ?_)
        exact ⟨a, B, sI, pins, sg2, H2, cls, d, rfl, J, nob, (upI.trans up3).trans up4, .inr (.inr (by rw [stk]; exact hh4)), noA, oss, bar, nay rfl⟩
      first
        | exact wpAny_bind (wpAny_pure (wpAny_bind out2))
        | exact wpAny_bind out2
  · match f, spq with
    | .next, z => obtain ⟨sg', H', J', q⟩ := z; exact wpAny_execs_nil ⟨sg', H', J'.ofTry okX, q⟩
    | .brk, z => obtain ⟨sg', H', J', q⟩ := z; exact ⟨sg', H', J'.ofTry okX, q⟩
    | .cont, z => obtain ⟨sg', H', J', q⟩ := z; exact ⟨sg', H', J'.ofTry okX, q⟩
    | .ret u, z => obtain ⟨v, sg', H', J', r, q⟩ := z; exact ⟨v, sg', H', J'.ofTry okX, r, q⟩
end
end EK


namespace EK
open PySem PySem.Spec PyProof.Rows L2 LamX
/-- all but the tables stay; more are code objects alone -/
structure ExtM (H H' : Hp) : Prop where
  ex : ExtN H H'
  nw : ∀ b o, H' b = some o → H b = some o ∨ (∃ p1 p2, o = .tbl p1 ∧ H b = some (.tbl p2)) ∨ (∃ c q, o = CodeO c q ∧ H b = none)
theorem ExtM.refl (H : Hp) : ExtM H H := ⟨ExtN.refl H, fun _ _ e => .inl e⟩
section
variable {X : Cx} {pins : List (Addr × Obj)} {σ : L2.St} {H : Hp} {st : Shared}
theorem lam_makeM {T : List (Addr × Str)} {c P : Addr} {params : Arguments} {body : Expr} {scope : Scope} {posL : Pos} {Ev : Value → Shared → Prop} {Qv : Value → Shared → Prop} (I : Inv X pins σ H st) (tbb : TabB X.base X.mg c P) (hcde : X.env.code = .ref c)
    (hmm : (P, X.env.qual ++ "<lambda>") ∈ T) (huq : ∀ p ∈ T, p.1 = P → p.2 = X.env.qual ++ "<lambda>") (hTT : Tabs T H) (hdf : defaultsOf params X.env = ([], [])) (hfr0 : ∀ y ∈ scope.names, y.2 = .free → ∃ c, X.env.cells.lookup y.1 = some c)
    (hh : ∀ (f c' : Addr) (pm ctv2 : Value) (H1 : Hp) (st' : Shared), Inv X pins σ H1 st' → ExtM H H1 → Tabs T H1 →
      st'.heap.get? f = some (PySem.W.kla_obj "<lambda>" (X.env.qual ++ "<lambda>") params body scope (cloFrom X.env.cells scope.names []) pm c' ctv2) → H1 f = none → f ∉ frs X.stack → H1 c' = some (CodeO c' (X.env.qual ++ "<lambda>")) → Qv (.ref f) st') :
    wpAny (model X.prog X.w) X.A (eval (.Lambda params body scope posL) X.env) Qv Ev st := by
  obtain ⟨ps, htP, htr, htA⟩ := hTT _ hmm
  refine PySem.W.kla_eval hdf ?_
  have bmP : st.heap.BuiltinsAt X.mg P := tbb.bm.keeps I.bk
  have htP2 : st.heap.get? P = some { cls := .none, data := .fields ps } := I.hok P _ htP
  have nofr2 : ∀ f, st.heap.objs.size ≤ f → f ∉ frs X.stack := fun f fge z => by
    rcases List.mem_cons.mp (I.stkSub _ z) with e | e
    · have h1 := I.lt
      rw [← e] at h1
      exact Nat.lt_irrefl _ (Nat.lt_of_lt_of_le h1 fge)
    · exact I.nofs fge e
  cases hcA : codeAmong posL ps.toList with
  | none =>
    refine PySem.W.kla_makeFunction (mg := X.mg) (c := c) (P := P) (ps := ps) (closure_ok hfr0) I.ok.glob (I.mod.glob.keeps I.bk) hcde (tbb.code.keeps I.bk) htP2 htr hcA tbb.gP bmP fun c' ctv2 h' tk hxk hgeS hltS hrc htbl => ?_
    obtain ⟨cB, ocd, vsl, tka, eb, hocd, hdd, hvv⟩ := hrc
    cases eb
    have hszS : st.heap.objs.size ≤ h'.objs.size := Nat.le_trans hgeS (Nat.le_of_lt hltS)
    have nCc : H c' = none := I.hok.fresh hgeS
    have J1 := inv_table (t' := tk) (more := #[rawInt posL.line, rawInt posL.col, .ref c']) (h' := h'.push (PySem.W.kla_obj "<lambda>" (X.env.qual ++ "<lambda>") params body scope (cloFrom X.env.cells scope.names []) ((X.mg "__name__").getD .none) c' ctv2)) I htP
      (fun b o hbP e => Heap.get?_push_of_some _ (hxk b o hbP e)) (Heap.get?_push_of_some _ htbl) hgeS ⟨ocd, vsl, tka, Heap.get?_push_of_some _ hocd, hdd, hvv⟩
    have hEx : ExtN H (upd (upd H P (.tbl (ps ++ #[rawInt posL.line, rawInt posL.col, .ref c']))) c' (CodeO c' (X.env.qual ++ "<lambda>"))) := fun b o e n => by
      rw [upd_ne (ne_of_none e nCc), upd_ne (fun z => n ps (Option.some.inj (e.symm.trans (by rw [z]; exact htP))))]
      exact e
    have newM : ∀ b o, upd (upd H P (.tbl (ps ++ #[rawInt posL.line, rawInt posL.col, .ref c']))) c' (CodeO c' (X.env.qual ++ "<lambda>")) b = some o → H b = some o ∨ (∃ p1 p2, o = .tbl p1 ∧ H b = some (.tbl p2)) ∨ (∃ c q, o = CodeO c q ∧ H b = none) := fun b o e => by
      by_cases z1 : b = c'
      · subst z1
        rw [upd_same] at e
        exact .inr (.inr ⟨_, _, (Option.some.inj e).symm, nCc⟩)
      · rw [upd_ne z1] at e
        by_cases z2 : b = P
        · subst z2
          rw [upd_same] at e
          exact .inr (.inl ⟨_, _, (Option.some.inj e).symm, htP⟩)
        · rw [upd_ne z2] at e
          exact .inl e
    have eLst : (ps ++ #[rawInt posL.line, rawInt posL.col, .ref c']).toList = ps.toList ++ [rawInt posL.line, rawInt posL.col, .ref c'] := by simp
    refine hh h'.objs.size c' ((X.mg "__name__").getD .none) ctv2 _ _ J1 ⟨hEx, newM⟩ (fun p hp => ?_) (Heap.get?_push_size _ rfl) ?_ (nofr2 _ hszS) upd_same
    · by_cases hbP : p.1 = P
      · rw [huq p hp hbP, hbP]
        refine ⟨_, by rw [upd_ne (ne_of_none htP nCc), upd_same], by rw [eLst]; exact PySem.TriplesOk_snoc _ _ _ _ htr, fun p' cv hcvz => ?_⟩
        rw [eLst] at hcvz
        rcases among_app _ htr hcvz with z | z
        · obtain ⟨cC, ea, eb⟩ := htA p' cv z
          exact ⟨cC, ea, hEx _ _ eb codeO_ne⟩
        · exact ⟨c', z, upd_same⟩
      · obtain ⟨ps', aa, ab, ac⟩ := hTT p hp
        refine ⟨ps', by rw [upd_ne (ne_of_none aa nCc), upd_ne hbP]; exact aa, ab, fun p' cv hcvz => ?_⟩
        obtain ⟨cC, ea, eb⟩ := ac p' cv hcvz
        exact ⟨cC, ea, hEx _ _ eb codeO_ne⟩
    · have na1 : h'.objs.size ≠ c' := Nat.ne_of_gt hltS
      have na2 : h'.objs.size ≠ P := Nat.ne_of_gt (Nat.lt_of_lt_of_le (Heap.lt_size htP2) hszS)
      rw [upd_ne na1, upd_ne na2]
      exact I.hok.fresh hszS
  | some cv =>
    obtain ⟨c', e, hcoA⟩ := htA posL cv hcA
    subst e
    refine PySem.W.kla_makeFunctionHit (mg := X.mg) (c := c) (P := P) (ps := ps) (closure_ok hfr0) I.ok.glob (I.mod.glob.keeps I.bk) hcde (tbb.code.keeps I.bk) htP2 htr hcA bmP fun ctv2 h' tk hxk hszS => ?_
    have J1 : Inv X pins σ H { st with heap := h'.push (PySem.W.kla_obj "<lambda>" (X.env.qual ++ "<lambda>") params body scope (cloFrom X.env.cells scope.names []) ((X.mg "__name__").getD .none) c' ctv2), toks := tk } := I.kept fun b o e => Heap.get?_push_of_some _ (hxk b o e)
    exact hh h'.objs.size c' ((X.mg "__name__").getD .none) ctv2 H _ J1 (ExtM.refl H) hTT (Heap.get?_push_size _ rfl) (I.hok.fresh hszS) (nofr2 _ hszS) hcoA
end
def tLamM (T : List (Addr × Str)) (TT : (XK → Hp → VK → Prop) → Hp → VK → Prop) (t : XK → TE) : TE := fun σ H Q => Tabs T H ∧ ∀ H1, ExtM H H1 → Tabs T H1 → TT (fun E H' Q' => t E σ H' Q') H1 Q
section
variable {X : Cx}
end
end EK


namespace EK
open PySem PySem.Spec PyProof.Rows L2
/-- caught: c = None; try: a() / except x as n: c = n; return c -/
def caughtBody (a c n x : Str) (j : Nat) (q1 q2 q3 p1 p2 p3 p4 p5 p6 p7 p8 p9 r1 r2 : Pos) : List Stmt :=
  [.Assign [.Name c q1] (.Constant .none j q2) q3, .Try [.Expr (.Call (.Name a p1) [] [] p2) p3] [.ExceptHandler (some (.Name x p4)) (some n) [.Assign [.Name c p5] (.Name n p6) p7] p8] [] [] p9, .Return (some (.Name c r1)) r2]
/-- what it makes of the lambda -/
def TCaught (K : PySem.W.Frag) (CS : Addr) : (XK → Hp → VK → Prop) → Hp → VK → Prop := fun tl H Q =>
  tl (fun cls d H' => PySem.W.exmOne K cls (.ref CS) = some true ∧ ∀ e, H' e = none → Q (.ref e) (upd H' e (ExK e cls d))) H fun _ H' => ∃ v, (some (some V.non) : Option (Option V)) = some (some v) ∧ Q v H'
section
variable {X : Cx}
theorem caught_gives {a c n x y q : Str} {sg : Scope} {g CS : Addr} {cdg : Value} {j : Nat} {q1 q2 q3 p1 p2 p3 p4 p5 p6 p7 p8 p9 r1 r2 : Pos} (hgx : sg.names.lookup x = some .globalImplicit) (hmx : X.mg x = some (.ref CS)) (hdx : (x == ("__debug__" : Str)) = false)
    (nd : [a, c, n].Nodup) (hc : sg.names.lookup c = some .local) (hn : sg.names.lookup n = some .local) (hdc : (c == ("__debug__" : Str)) = false) (hdn : (n == ("__debug__" : Str)) = false) (hcc : (c == ("__classdict__" : Str)) = false) (hcn : (n == ("__classdict__" : Str)) = false) :
    LamX.GivesTo X [a, c, n] y sg g cdg (caughtBody a c n x j q1 q2 q3 p1 p2 p3 p4 p5 p6 p7 p8 p9 r1 r2) a q (TCaught X.K CS) := by
  intro f c' s H Q tl act hco h
  have hgl : Gl (cxOf C8.CX0 X.prog X.w X.K X.mg X.base [a, c, n] y sg g cdg X.A X.stack s H C8.E0).nox x := hgx
  refine ⟨_, pss_cons (ps_set (i := 1) nd rfl (Or.inl hc) pe_non) (pss_cons (ps_try_kept (X := (cxOf C8.CX0 X.prog X.w X.K X.mg X.base [a, c, n] y sg g cdg X.A X.stack s H C8.E0).nox) (i := 2) (c := .ref CS)
      (tb := fun W D sg H => ∃ Ech : XK, (∀ cls d sg' H', Ech cls d H' → W cls d sg' H') ∧ sg[0]? = some (some (.ref f)) ∧ H c' = some (LamX.CodeO c' q) ∧ tl Ech H fun _ H' => D.nx sg H')
      rfl rfl nd rfl hn ⟨hgl, hdx, .inl hmx⟩ LamX.takes0 (fun W pn xe tk _ => ?_) (fun e cls d pn => pss_one (ps_set (i := 1) nd rfl (Or.inl hc) (pe_var (i := 2) rfl (Or.inl hn) hdn hcn)))) (pss_one (ps_ret (pe_var (i := 1) rfl (Or.inl hc) hdc hcc)))), ?_⟩
  · refine ⟨fun pins s' sg' H' D I h' => ?_⟩
    obtain ⟨Ech, hW, h1, h2, h3⟩ := h'
    have hp := act W pn xe Ech p1 p2 tk hW
    have hq := pss_one (ps_expr (pos := p3) hp)
    exact hq.run pins s' sg' H' D I ⟨h1, h2, h3⟩
  · refine ⟨fun cls d H' => PySem.W.exmOne X.K cls (.ref CS) = some true ∧ ∀ e, H' e = none → Q (.ref e) (upd H' e (ExK e cls d)), fun cls d sg' H' ⟨e1, e2⟩ hlen => ⟨true, e1, fun _ e he => ?_, fun z => by cases z⟩, rfl, hco, ?_⟩
    · match sg', hlen with
      | [u0, u1, u2], _ => exact ⟨.ref e, rfl, .ref e, rfl, e2 e he⟩
    · exact h
end
/-- kx: the classes that are caught -/
def gCaught (kx : List Str) (f : SE) : SE := fun G s => match f G s with
  | none => none
  | some (.ok _, s') => some (.ok .non, s')
  | some (.err x, s') => if kx.contains x.cls then some (.ok (.exc x.cls x.ns x.xs), s') else none
theorem ExK_nt {a : Addr} {cls : Value} {d : Option Addr} : NotTbl (ExK a cls d) := fun _ z => by unfold ExK at z; cases z
section
variable {X : Cx} {dl : Dr} {W : WX}
/-- a heap grown by code objects and what tables tell -/
theorem wd_grown {F H H1 : Hp} {s : DS} (w : Wd dl F H s) (em : ExtM H H1) (tb : LamX.Tabs dl.tabs H1) : ∃ F1, Step dl F H F1 H1 ∧ Wd dl F1 H1 s := by
  classical
  have ex := em.ex
  have kept : ∀ b o, ¬ dl.has b → H b = some o → H1 b = some o := fun b o nh e => ex b o e fun ps z => by
    subst z
    obtain ⟨q, hq⟩ := w.tb.nt b ps e
    exact nh (.inr (.inr (.inr ⟨q, hq⟩)))
  have keptF : ∀ b o, F b = some o → H1 b = some o := fun b o e => kept b o (fun z => by rw [w.off b z] at e; cases e) (w.sub b o e)
  have keptC : ∀ b c q, H b = some (LamX.CodeO c q) → H1 b = some (LamX.CodeO c q) := fun b c q e => ex b _ e fun ps z => by unfold LamX.CodeO at z; cases z
  obtain ⟨d1, d2, d3, d4⟩ := w.dr
  have k1 := ex _ _ d1 fun ps z => by cases z
  have k2 := ex _ _ d2 fun ps z => by cases z
  have k3 := ex _ _ d3 fun ps z => by cases z
  let isC : Addr → Prop := fun b => ∃ c q, H1 b = some (LamX.CodeO c q)
  let F1 : Hp := fun b => if isC b then H1 b else F b
  have f1 : ∀ b, ¬ isC b → F1 b = F b := fun b h => if_neg h
  have f2 : ∀ b, isC b → F1 b = H1 b := fun b h => if_pos h
  have hasN : ∀ b, dl.has b → ¬ isC b := fun b hb ⟨c, q, e⟩ => by
    have ne : ∀ o, H1 b = some o → (∀ c q, o ≠ LamX.CodeO c q) → False := fun o e2 hn => by
      rw [e] at e2
      exact hn c q (Option.some.inj e2).symm
    rcases hb with z | z | z | ⟨q', z⟩
    · exact ne _ (by rw [z]; exact k1) fun _ _ y => by unfold LamX.CodeO at y; cases y
    · exact ne _ (by rw [z]; exact k2) fun _ _ y => by unfold LamX.CodeO at y; cases y
    · exact ne _ (by rw [z]; exact k3) fun _ _ y => by unfold LamX.CodeO at y; cases y
    · obtain ⟨ps, h1, _⟩ := tb _ z
      exact ne _ h1 fun _ _ y => by unfold LamX.CodeO at y; cases y
  have same : Same F F1 := fun b o e => by
    by_cases h : isC b
    · rw [f2 b h]; exact keptF b o e
    · rw [f1 b h]; exact e
  refine ⟨F1, ⟨same, kept, fun b o e => ?_, fun b e => ?_⟩, ⟨fun b o e => ?_, fun b hb => ?_, ⟨k1, k2, k3, d4⟩, ⟨fun p hp => ?_, fun b ps e => ?_, fun b c q e => ?_⟩⟩⟩
  · by_cases h : isC b
    · rw [f2 b h] at e
      obtain ⟨c, q, hc⟩ := h
      cases z : H b with
      | none => exact .inr rfl
      | some u =>
        refine .inl ?_
        by_cases hh : dl.has b
        · exact absurd ⟨c, q, hc⟩ (hasN b hh)
        · have := kept b u hh z
          rw [hc] at this
          rw [← Option.some.inj this] at z
          have y := w.tb.cd b c q z
          rw [hc] at e
          rw [← Option.some.inj e]
          exact y
    · rw [f1 b h] at e; exact .inl e
  · cases z : H b with
    | none => rfl
    | some u =>
      by_cases hh : dl.has b
      · rcases hh with y | y | y | ⟨q', y⟩
        · rw [y, k1] at e; cases e
        · rw [y, k2] at e; cases e
        · rw [y, k3] at e; cases e
        · obtain ⟨ps, h1, _⟩ := tb _ y
          rw [e] at h1; cases h1
      · rw [kept b u hh z] at e; cases e
  · by_cases h : isC b
    · rw [f2 b h] at e; exact e
    · rw [f1 b h] at e; exact keptF b o e
  · rw [f1 b (hasN b hb)]; exact w.off b hb
  · obtain ⟨ps, h1, h2, h3⟩ := tb p hp
    refine ⟨ps, h1, h2, fun pos cv hc => ?_⟩
    obtain ⟨c, e1, e2⟩ := h3 pos cv hc
    exact ⟨c, e1, by rw [f2 c ⟨_, _, e2⟩]; exact e2⟩
  · rcases em.nw b _ e with z | ⟨p1, p2, _, z⟩ | ⟨c, q, z, _⟩
    · exact w.tb.nt b ps z
    · exact w.tb.nt b p2 z
    · unfold LamX.CodeO at z; cases z
  · rw [f2 b ⟨c, q, e⟩]; exact e
end
end EK


namespace EK
open PySem PySem.Spec PyProof.Rows L2
/-- what is known of an exception class whose instances are looked at -/
structure XclF (K : PySem.W.Frag) (C : Addr) : Prop where
  cl : (PySem.W.clsIn K C).isSome = true
  ga : PySem.W.findIn K (.ref C) "__getattribute__" = some (some (.builtin "BaseException.__getattribute__"))
  gg : PySem.W.findIn K (.ref C) "__getattr__" = some none
  su : PySem.W.subIn K (.ref C) (.type "BaseException") = some true
  hd : PySem.W.hasDictIn K C = true
  ha : PySem.W.findIn K (.ref C) "__class__" = some (some (.builtin "object.__class__"))
  hn : PySem.W.specialIn K (.builtin "object.__class__") "__get__" = some (some (.builtin "getset_descriptor.__get__"))
  tk : PySem.W.takesIn K (.builtin "object.__class__") = some true
  mo : PySem.W.mroIn K C (.type "object") = some true
section
variable {X : Cx} {dl : Dr} {W : WX} {e c2 : Expr} {fe : SE} {p pos : Pos}
theorem exc_inst {pins : List (Addr × Obj)} {sg : L2.St} {F H : Hp} {s : Shared} {ds : DS} {c : Str} {ns : List Str} {xs : List D} {v : V} (I : Inv X pins sg H s) (w : Wd dl F H ds) (r : Rep X.K X.mg dl F (.exc c ns xs) v) :
    ∃ (a C : Addr) (vs : List V) (oe : Obj) (od : Option Obj), v = .ref a ∧ X.mg c = some (.ref C) ∧ ns.length = vs.length ∧ RepL X.K X.mg dl F xs vs ∧ PySem.W.InstAt s.heap a oe C od ∧
      (ns ≠ [] → ∃ (d : Addr) (o : Obj) (mA : Str → Option Value), od = some o ∧ H d = some (.xd (ns.zip vs)) ∧ s.heap.get? d = some o ∧ (∀ f, RelO ((ns.zip vs).lookup f) (mA f)) ∧ (∀ f, PySem.W.lookIn f o = some (mA f))) := by
  obtain ⟨a, C, vs, rfl, h2, h3, h4, h5⟩ := r
  rcases h4 with ⟨n1, n2⟩ | ⟨d, n1, n2, n3⟩
  · obtain ⟨oe, vv, g1, g2, g3⟩ := exK_at I.hok (w.sub _ _ n2)
    exact ⟨a, C, vs, oe, none, rfl, h2, h3, h5, ⟨g1, g2.1, by unfold PySem.W.notCls; rw [g3] <;> rfl, by rw [g2.2]; trivial⟩, fun z => absurd n1 z⟩
  · obtain ⟨oe, vv, g1, g2, g3⟩ := exK_at I.hok (w.sub _ _ n2)
    have hx : ObjOk X.prog X.w H s.heap d (.xd (ns.zip vs)) := I.hok d _ (w.sub _ _ n3)
    obtain ⟨mA, hns, hr⟩ := hx
    obtain ⟨od, ho, hl⟩ := lookIn_ns hns
    exact ⟨a, C, vs, oe, some od, rfl, h2, h3, h5, ⟨g1, g2.1, by unfold PySem.W.notCls; rw [g3] <;> rfl, by rw [g2.2]; exact ho⟩, fun _ => ⟨d, od, mA, rfl, w.sub _ _ n3, ho, hr, hl⟩⟩
structure IsiX (K : PySem.W.Frag) (mg : Str → Option Value) (c : Str) (T : Value) (b : Bool) : Prop where
  ex : ∃ C, mg c = some (.ref C) ∧ XclF K C ∧ PySem.W.kitOne K (.ref C) T = some b
def isiXD (cx cs : List (Str × Bool)) (ans : String → Option Bool) : D → Option D
  | .exc c _ _ => (cx.lookup c).map .bl
  | d => isiD cs ans d
def rIsX (X : Cx) (dl : Dr) : List V → Hp → VK → Prop := fun xs H Q => ∃ (F : Hp) (s : DS) (c : Str) (ns : List Str) (ds : List D) (v cv : V) (T : Value) (b : Bool) (C : Addr), xs = [v, cv] ∧ ClsV cv T ∧ Wd dl F H s ∧ Rep X.K X.mg dl F (.exc c ns ds) v ∧ X.mg c = some (.ref C) ∧ XclF X.K C ∧ PySem.W.kitOne X.K (.ref C) T = some b ∧ Q (.bl b) H
theorem call_isX : CallR X (.builtin "isinstance") (rIsX X dl) := by
  intro pins s sg H xs us Q I r h
  obtain ⟨F, ds, c, ns, dd, v, cv, T, b, C, rfl, k, w, rp, hm, xc, e, q⟩ := h
  obtain ⟨u1, u2, rfl, r1, r2⟩ := vals2 r
  have e2 := k.eq r2
  subst e2
  obtain ⟨a, C', vs, oe, od, rfl, m2, _, _, J, _⟩ := exc_inst I w rp
  rw [hm] at m2
  cases m2
  cases (show u1 = Value.ref a from r1)
  exact PySem.W.kia_one (PySem.W.kitx_exc xc.cl xc.ga xc.gg xc.su xc.ha xc.hn xc.tk xc.mo) I.kIn J e (fun z => nomatch z) fun tk => ⟨.bl b, H, I.tok tk, rfl, q⟩
theorem de_isiX {T : Value} {cv : V} {cx cs : List (Str × Bool)} {ans : String → Option Bool} (hg : Gl X "isinstance") (hm : X.mg "isinstance" = none) (hT : PE X c2 (tC cv)) (hcv : ClsV cv T) (hcx : ∀ c b, cx.lookup c = some b → IsiX X.K X.mg c T b) (hcs : ∀ c b, cs.lookup c = some b → IsiF X.K X.mg c T b) (hans : ∀ t b, ans t = some b → PySem.W.kitOne X.K (.type t) T = some b) (he : DE X dl W e fe)
    (hs1 : starEach [e, c2] X.env = (false, eval e X.env) :: starEach [c2] X.env := by rfl) (hs2 : starEach [c2] X.env = (false, eval c2 X.env) :: starEach [] X.env := by rfl) (hpl : (backTo pos (starEach [c2] X.env)).any (·.1) = false := by rfl) :
    DE X dl W (.Call (.Name "isinstance" p) [e, c2] [] pos) (g1 (isiXD cx cs ans) fe) := by
  refine PE.of (pe_callB (callR_or call_isi (call_isX (dl := dl))) hg hm (by decide +kernel) (pa_cons he (pa_cons hT pa_nil hs2) hs1) (by decide) (by decide) hs1 hpl) fun sg H Q q => ?_
  obtain ⟨F, q⟩ := q
  refine ⟨F, q.bnd.imp fun d F1 H1 ⟨st1, q1⟩ v rv => ?_⟩
  obtain ⟨y, s, e1, w, q2⟩ := q1.op
  cases hd : tyN d with
  | some t =>
    have e2 : ((ans t).map D.bl) = some y := by
      cases d <;> first | (simpa [isiXD, isiD, hd] using e1) | (simp [tyN] at hd)
    cases ha : ans t with
    | none => rw [ha] at e2; cases e2
    | some b =>
      rw [ha] at e2
      cases e2
      exact .inl ⟨v, cv, .type t, T, b, rfl, hcv, tyx_of w rv hd, hans t b ha, q2 F1 H1 Step.refl w _ rfl⟩
  | none =>
    cases d with
    | obj c ns xs =>
      have e2 : ((cs.lookup c).map D.bl) = some y := e1
      cases hc : cs.lookup c with
      | none => rw [hc] at e2; cases e2
      | some b =>
        rw [hc] at e2
        cases e2
        obtain ⟨C, t1, t2⟩ := tyx_obj w (hcs c b hc) (by simp [isC]) rv
        exact .inl ⟨v, cv, .ref C, T, b, rfl, hcv, t1, t2, q2 F1 H1 Step.refl w _ rfl⟩
    | exc c ns xs =>
      have e2 : ((cx.lookup c).map D.bl) = some y := e1
      cases hc : cx.lookup c with
      | none => rw [hc] at e2; cases e2
      | some b =>
        rw [hc] at e2
        cases e2
        obtain ⟨C, m1, m2, m3⟩ := (hcx c b hc).ex
        exact .inr ⟨F1, s, c, ns, xs, v, cv, T, b, C, rfl, hcv, w, rv, m1, m2, m3, q2 F1 H1 Step.refl w _ rfl⟩
    | dcT _ _ => cases e1
    | _ => cases hd
structure FldX (K : PySem.W.Frag) (mg : Str → Option Value) (c n : Str) : Prop where
  ex : ∃ C, mg c = some (.ref C) ∧ XclF K C ∧ PySem.W.findIn K (.ref C) n = some none
def fldXD (cl : List Str) (n : Str) : D → Option D
  | .exc c ns xs => if cl.contains c then (ns.zip xs).lookup n else none
  | _ => none
theorem zipX_lookup {F : Hp} {n : Str} : ∀ {ns : List Str} {xs : List D} {vs : List V} {d : D}, RepL X.K X.mg dl F xs vs → (ns.zip xs).lookup n = some d → ∃ v, (ns.zip vs).lookup n = some v ∧ Rep X.K X.mg dl F d v
  | [], _, _, _, _, e => by simp at e
  | m :: ns, [], _, _, _, e => by simp at e
  | m :: ns, x :: xs, vs, d, r, e => by
    obtain ⟨v, vs', rfl, r1, r2⟩ := r
    rw [List.zip_cons_cons, List.lookup_cons] at e ⊢
    cases h : n == m with
    | true =>
      rw [h] at e
      cases e
      exact ⟨v, rfl, r1⟩
    | false =>
      rw [h] at e
      exact zipX_lookup r2 e
theorem de_fldX {cl : List Str} {n : Str} (hT : ∀ c ∈ cl, FldX X.K X.mg c n) (he : DE X dl W e fe) (hb : attributeBase e n X.env (eval e X.env) = eval e X.env := by rfl) : DE X dl W (.Attribute e n pos) (g1 (fldXD cl n) fe) := by
  refine ⟨fun pins s sg H Q I q => ?_⟩
  obtain ⟨F, q⟩ := q
  have q' : tD X dl W fe sg H (fun v H1 => ∃ (F1 : Hp) (s1 : DS) (d y : D), Wd dl F1 H1 s1 ∧ Rep X.K X.mg dl F1 d v ∧ fldXD cl n d = some y ∧ ∀ u, Rep X.K X.mg dl F1 y u → Q u H1) :=
    ⟨F, q.bnd.imp fun d F1 H1 ⟨st1, q1⟩ v rv => by
      obtain ⟨y, s1, e1, w, q2⟩ := q1.op
      exact ⟨F1, s1, d, y, w, rv, e1, fun u ru => q2 F1 H1 Step.refl w u ru⟩⟩
  refine attr_of hb (thn (he.run pins s sg H _ I q') fun u s1 hh => ?_)
  obtain ⟨x, H1, I1, rx, F1, st, d, y, w, rv, e1, q2⟩ := hh
  match d, e1, rv with
  | .exc c ns xs, e1, rv =>
    have e1 : (if cl.contains c then (ns.zip xs).lookup n else none) = some y := e1
    cases hc : cl.contains c with
    | false => rw [hc] at e1; cases e1
    | true =>
      rw [hc] at e1
      have e1 : (ns.zip xs).lookup n = some y := e1
      obtain ⟨a, C, vs, oe, od, rfl, m2, _, rl, J, hns⟩ := exc_inst I1 w rv
      obtain ⟨C', m1, xc, no⟩ := (hT c (by simpa using hc)).ex
      rw [m1] at m2
      cases m2
      cases (show u = Value.ref a from rx)
      obtain ⟨z, l1, l2⟩ := zipX_lookup rl e1
      obtain ⟨da, o, mA, rfl, hd, ho, hr, hl⟩ := hns (fun z => by subst z; simp at e1)
      obtain ⟨u2, hu, ru⟩ := RelO.some_of (v := z) (o := mA n) (by rw [← l1]; exact hr n)
      exact HandSPX.exc_get I1.kIn J xc.ga xc.gg xc.su (PySem.W.findObj_own xc.hd no rfl (by rw [hl n, hu])) (handed_of ru) ⟨z, H1, I1.tok _, ru, q2 z l2⟩
  | .non, e1, _ => cases e1
  | .bl _, e1, _ => cases e1
  | .int _, e1, _ => cases e1
  | .str _, e1, _ => cases e1
  | .tup _, e1, _ => cases e1
  | .lst _, e1, _ => cases e1
  | .obj _ _ _, e1, _ => cases e1
  | .drw, e1, _ => cases e1
  | .scr _, e1, _ => cases e1
  | .dct _ _, e1, _ => cases e1
  | .dcT _ _, e1, _ => cases e1
end
end EK


namespace EK
open PySem PySem.Spec PyProof.Rows L2
theorem xcl_ok {K : PySem.W.Frag} {x : Str} (h : (Fx.xcl x).ok K = true) : XclF K (He.ga K x) := by
  obtain ⟨h1, h⟩ := He.ba h
  obtain ⟨h2, h⟩ := He.ba h
  obtain ⟨h3, h⟩ := He.ba h
  obtain ⟨h4, h⟩ := He.ba h
  obtain ⟨h5, h6⟩ := He.ba h
  obtain ⟨c1, c2, c3, c4⟩ := clsB_ok h1
  exact ⟨h2, He.eqO_ok h3, He.eqO_ok h4, of_decide_eq_true h5, h6, c1, c2, c3, c4⟩
theorem xis_ok {K : PySem.W.Frag} {mg : Str → Option Value} {x : Str} {t : Ty} {b : Bool} (gl : mg x = some (.ref (He.ga K x))) (c : (Fx.xcl x).ok K = true) (h : (Fx.xis x t b).ok K = true) : IsiX K mg x (t.val K) b :=
  ⟨_, gl, xcl_ok c, of_decide_eq_true h⟩
theorem fldX_ok {K : PySem.W.Frag} {mg : Str → Option Value} {x n : Str} (gl : mg x = some (.ref (He.ga K x))) (c : (Fx.xcl x).ok K = true) (h : (He.Fa.noat x n).ok K = true) : FldX K mg x n := ⟨_, gl, xcl_ok c, He.eqO_ok h⟩
theorem exc0_ok {K : PySem.W.Frag} {mg : Str → Option Value} {x : Str} (gl : mg x = some (.ref (He.ga K x))) (h : (He.Fa.exc x).ok K = true) : Exc0 K mg x := by
  obtain ⟨h1, h⟩ := He.ba h
  obtain ⟨h2, h⟩ := He.ba h
  obtain ⟨h3, h4⟩ := He.ba h
  exact ⟨_, gl, h1, h2, of_decide_eq_true h3, of_decide_eq_true h4⟩
theorem oexB_ok {K : PySem.W.Frag} {C : Addr} (h : oexB K C = true) : OexC K C := by
  obtain ⟨h1, h⟩ := He.ba h
  obtain ⟨h2, h⟩ := He.ba h
  obtain ⟨h3, h⟩ := He.ba h
  obtain ⟨h4, h5⟩ := He.ba h
  refine ⟨?_, He.eqO_ok h2, of_decide_eq_true h3, of_decide_eq_true h4, h5⟩
  split at h1
  · rename_i t dd cd sl ho
    obtain ⟨u1, u2⟩ := He.ba h1
    have e1 : t = "type" := of_decide_eq_true u1
    subst e1
    split at u2
    · rename_i C' bm k0 k1 k2 k3 n k5 hm hs
      obtain ⟨v1, v2⟩ := He.ba u2
      obtain ⟨v3, v4⟩ := He.ba v2
      obtain ⟨v5, v6⟩ := He.ba v4
      obtain ⟨v7, v8⟩ := He.ba v6
      have e2 : C' = C := of_decide_eq_true v1
      have e3 : n = "ValueError.__new__" := of_decide_eq_true v3
      subst e2 e3
      obtain ⟨nm, bs, mro, ns, qn, hd, sn, sub, ab, col, del⟩ := cd
      dsimp only at hm v5 v7
      subst hm
      have e4 : del = false := by simpa using v5
      subst e4 v7
      have es : sl = #[k0, k1, k2, k3, some (.builtin "ValueError.__new__"), k5] := by
        obtain ⟨l⟩ := sl
        exact congrArg Array.mk hs
      subst es
      exact ⟨nm, qn, ns, bs, bm, sn, sub, ab, col, dd, k0, k1, k2, k3, k5, ho, v8⟩
    · cases u2
  · cases h1
theorem fileB_ok {vs : Array Value} {file : Str} (h : fileB vs file = true) : ∃ tf, vs[2]? = some (.str file tf) := by
  unfold fileB at h
  split at h
  · rename_i f tf hf
    have ef : f = file := of_decide_eq_true h
    exact ⟨tf, by rw [hf, ef]⟩
  · cases h
/-- what the text says of it, by a look at it -/
structure ExcT (prog : Program) (d : ExcD) : Prop where
  top : (prog.main.scope.names.lookup ("super" : Str)).isSome = false
  file : ((prog.main.file : Str) == d.file) = true
  body : ∃ (msg : Str) (j : Nat) (p0 p1 p2 p3 p4 p5 p6 p7 p8 p9 : Pos), d.body = supBody msg d.fld j p0 p1 p2 p3 p4 p5 p6 p7 p8 p9 ∧ ∀ (L f cda cc : Addr), supRuns (PySem.W.ksEnv d.qual d.scope L f (.ref cda) cc) msg d.fld j p0 p1 p2 p3 p4 p5 p6 p7 p8 p9
  bind : ∀ (body : List Stmt) (kV doc pm ct cdv : Value) (an : Option Addr) (cc : Addr) (s : Shared) (a b : Value), BindsTo s (PySem.W.ksFn "__init__" d.qual d.params body d.scope .none kV doc pm an cdv ct cc) ⟨[a, b], []⟩ [("self", a), (d.fld, b)]
  arg : ∃ ar : Arg, (d.params.posonlyargs ++ d.params.args).head? = some ar ∧ ar.arg = "self"
  sc : (∀ x ∈ d.scope.names, x.2 ≠ .cell) ∧ d.scope.isCoroutine = false ∧ d.scope.isGenerator = false ∧ d.scope.kind = .function ∧
    d.scope.names.lookup ("super" : Str) = some .globalImplicit ∧ d.scope.names.lookup ("__class__" : Str) = some .free ∧ d.scope.names.lookup ("self" : Str) = some .local ∧ d.scope.names.lookup d.fld = some .local ∧ (d.fld == ("__debug__" : Str)) = false ∧ (("self" : Str) == d.fld) = false
theorem ExcD.supC {prog : Program} {K : PySem.W.Frag} {d : ExcD} (t : ExcT prog d) (h : d.ok K = true) (e : fnV K (initA K d.cls) = d.val) : SupC prog K (He.ga K d.cls) (initA K d.cls) d.fld := by
  obtain ⟨h1, h⟩ := He.ba h
  obtain ⟨h2, h⟩ := He.ba h
  obtain ⟨h3, h⟩ := He.ba h
  obtain ⟨h4, h⟩ := He.ba h
  obtain ⟨h5, h⟩ := He.ba h
  obtain ⟨h6, h⟩ := He.ba h
  obtain ⟨h7, h⟩ := He.ba h
  obtain ⟨h8, h⟩ := He.ba h
  obtain ⟨h9, h⟩ := He.ba h
  refine ⟨oexB_ok h1, He.eqO_ok h2, He.eqO_ok h3, of_decide_eq_true h4, of_decide_eq_true h5, of_decide_eq_true h6, He.eqO_ok h7, He.eqO_ok h8, He.eqO_ok h9, t.top, ?_⟩
  unfold fnV at e
  cases hl : K.lookup (initA K d.cls) with
  | none => rw [hl] at h; cases h
  | some ob =>
    rcases ob with ⟨u1, u2, dat, u3⟩
    rw [hl] at h e
    cases dat
    case func fd =>
      rcases fd with ⟨m1, m2, m3, m4, m5, m6, m7, m8, m9, m10, m11, m12, m13, m14, m15⟩
      unfold ExcD.val at e
      simp only [Option.some.injEq, Prod.mk.injEq] at e
      rcases e with ⟨g1, g2, g3, g4, g5, g6, g7, g8⟩
      subst g1 g2 g3 g4 g5 g6 g8
      match m13, m7, g7, h with
      | .ref cda, [(nm, cc)], g7, h =>
        have en : nm = "__class__" := by simpa using g7
        subst en
        obtain ⟨y1, y2⟩ := He.ba h
        obtain ⟨y5, y0⟩ := He.ba y1
        have e8 : m8 = .none := by
          cases m8 <;> first | rfl | cases y0
        subst e8
        obtain ⟨y3, y4⟩ := He.ba y2
        obtain ⟨msg, j, p0, p1, p2, p3, p4, p5, p6, p7, p8, p9, eb, er⟩ := t.body
        rw [eb]
        refine ⟨u1, u2, u3, d.qual, d.params, d.scope, .none, m9, m10, m11, m14, m12, cda, cc, msg, j, p0, p1, p2, p3, p4, p5, p6, p7, p8, p9, rfl, y5, ?_, ?_, fun s a b => t.bind _ m9 m10 m11 m14 (.ref cda) m12 cc s a b, t.arg, t.sc.1, t.sc.2.1, t.sc.2.2.1, t.sc.2.2.2.1, t.sc.2.2.2.2.1, t.sc.2.2.2.2.2.1, t.sc.2.2.2.2.2.2.1, t.sc.2.2.2.2.2.2.2.1, t.sc.2.2.2.2.2.2.2.2.1, t.sc.2.2.2.2.2.2.2.2.2, fun L => er L _ cda cc⟩
        · split at y3
          · rename_i a1 a2 vs a3 hk
            obtain ⟨tf, hf⟩ := fileB_ok y3
            exact ⟨a1, a2, vs, a3, d.file, tf, hk, hf, t.file⟩
          · cases y3
        · split at y4
          · rename_i a1 a2 Q a3 hk
            have eq : Q = He.ga K d.cls := of_decide_eq_true y4
            rw [eq] at hk
            exact ⟨a1, a2, a3, hk⟩
          · cases y4
    all_goals cases h
def asZ (g : Addr → Option Obj) (n : Nat) : List Addr := cStatics :: He.asD g n
def obsW (n : Nat) (fa : List He.Fa) (fn : List He.DefD) (fx : List Fx) (gt : List GetD) (tf : List He.Defn) (xd : List ExcD) (g : Addr → Option Obj) : AlW :=
  ((obsY fa fn fx gt (He.frT g (asZ g n)), He.tabsB g tf (He.frT g (asZ g n))), ((xd.all fun d => d.ok (He.frT g (asZ g n))) && decide ((tf.map fun p => (He.cT (He.frT g (asZ g n)) p).2).Nodup)), xd.map fun d => fnV (He.frT g (asZ g n)) (initA (He.frT g (asZ g n)) d.cls))
def hookW (n : Nat) (fa : List He.Fa) (fn : List He.DefD) (fx : List Fx) (gt : List GetD) (tf : List He.Defn) (xd : List ExcD) : PySem.W.Hook where
  α := AlW
  obs := fun s => obsW n fa fn fx gt tf xd s.heap.get?
  val := fun _ => ((((He.valD fn, true), true, gt.map GetD.val), true), true, xd.map ExcD.val)
  says := fun _ h => ∃ K : PySem.W.Frag, K.In h ∧ SaysW fa fn fx gt tf xd h K
  of := fun _ s e => ⟨_, He.frT_in, saysZ_of (as := asZ s.heap.get? n) (congrArg (fun z : AlW => z.1) e), (He.ba (congrArg (fun z : AlW => z.2.1) e)).1, congrArg (fun z : AlW => z.2.2) e, of_decide_eq_true (He.ba (congrArg (fun z : AlW => z.2.1) e)).2⟩
  keeps := fun _ _ _ ⟨K, hK, c⟩ k => ⟨K, PySem.W.Frag.In.keeps hK k, ⟨⟨c.z.y, c.z.hd, c.z.out, fun p hp => k _ _ (c.z.empty p hp)⟩, c.x, c.v, c.dj⟩⟩
theorem SaysW.exc1 {prog : Program} {fa : List He.Fa} {fn : List He.DefD} {fx : List Fx} {gt : List GetD} {tf : List He.Defn} {xd : List ExcD} {h : Heap} {K : PySem.W.Frag} {mg : Str → Option Value} (c : SaysW fa fn fx gt tf xd h K) (i : Nat) {d : ExcD} (gl : mg d.cls = some (.ref (He.ga K d.cls))) (t : ExcT prog d) (hi : xd[i]? = some d := by rfl) : Exc1 prog K mg d.cls d.fld := by
  have e2 : (xd.map fun d => fnV K (initA K d.cls))[i]? = (xd.map ExcD.val)[i]? := by rw [c.v]
  rw [List.getElem?_map, List.getElem?_map, hi] at e2
  exact ⟨_, _, gl, ExcD.supC t (List.all_eq_true.mp c.x d (List.mem_of_getElem? hi)) (Option.some.inj e2)⟩
end EK


namespace EK
open PySem PySem.Spec PyProof.Rows L2
def pickL {α : Type} (is : List Nat) (zs : List α) : List α := is.filterMap fun i => zs[i]?
/-- a def called with n values and keywords ks; is: where the further parameters stand among the keywords -/
structure DFnK (P : Program) (w : World) (K : PySem.W.Frag) (mg : Str → Option Value) (base : Heap) (x : Str) (k n : Nat) (ks : List Str) (is : List Nat) (N : Nat) (m : List D → M D) : Prop where
  ex : ∃ (f : Addr) (fd : FuncData) (ps : List Str), mg x = some (.ref f) ∧ PySem.W.keepIn K (.ref f) = true ∧ ps.length = N ∧ KBn K fd ps n ks (fun us ws => us ++ pickL is ws) (fun vs zs => vs ++ pickL is zs) ∧ FnOk P w K mg base (L2.CX P w) k f fd ps (spD K mg N m)
section
variable {X : Cx} {dl : Dr} {W : WX} {pos p : Pos} {x : Str} {e : Expr} {es : List Expr} {kws : List Keyword} {ra rk : SA} {k n N : Nat} {ks : List Str} {is : List Nat} {m : List D → M D}
abbrev DK (X : Cx) (dl : Dr) (W : WX) (kws : List Keyword) (f : SA) : Prop := PK X kws (tDA X dl W f)
def gCallK (n l N : Nat) (is : List Nat) (m : List D → M D) (ra rk : SA) : SE := fun G => bnd (ra G) fun ds => bnd (rk G) fun es => if ds.length = n ∧ es.length = l ∧ (ds ++ pickL is es).length = N then m (ds ++ pickL is es) else fail
end
/-- what is known of the def that catches -/
structure CaughtF (K : PySem.W.Frag) (mg : Str → Option Value) (x a ke : Str) : Prop where
  ex : ∃ (fd : FuncData) (pg : Arguments) (sg : Scope) (c n : Str) (j : Nat) (q1 q2 q3 p1 p2 p3 p4 p5 p6 p7 p8 p9 r1 r2 : Pos),
    FunD K x x pg (caughtBody a c n ke j q1 q2 q3 p1 p2 p3 p4 p5 p6 p7 p8 p9 r1 r2) sg [] [] (He.ga K x) fd ∧ Binds K fd [a] [] ∧ FnScope [a, c, n] [a] sg ∧ Vis sg a ∧ mg x = some (.ref (He.ga K x)) ∧ mg ke = some (.ref (He.ga K ke)) ∧
    sg.names.lookup ke = some .globalImplicit ∧ (ke == ("__debug__" : Str)) = false ∧ [a, c, n].Nodup ∧ sg.names.lookup c = some .local ∧ sg.names.lookup n = some .local ∧ (c == ("__debug__" : Str)) = false ∧ (n == ("__debug__" : Str)) = false ∧ (c == ("__classdict__" : Str)) = false ∧ (n == ("__classdict__" : Str)) = false
section
variable {X : Cx} {dl : Dr} {W : WX}
end
theorem tabs_mem {K : PySem.W.Frag} {tf : List He.Defn} {nm : He.Defn → Str} {d : He.Defn} (h : d ∈ tf) : ((He.cT K d).2, nm d) ∈ tabsOf K tf nm := List.mem_map.mpr ⟨d, h, rfl⟩
theorem tabs_uniq {K : PySem.W.Frag} {tf : List He.Defn} {nm : He.Defn → Str} {d : He.Defn} (nd : (tf.map fun p => (He.cT K p).2).Nodup) (h : d ∈ tf) : ∀ p ∈ tabsOf K tf nm, p.1 = (He.cT K d).2 → p.2 = nm d := fun p hp e => by
  obtain ⟨d', hd', rfl⟩ := List.mem_map.mp hp
  have : d' = d := by
    have inj : ∀ {l : List He.Defn}, (l.map fun p => (He.cT K p).2).Nodup → ∀ a ∈ l, ∀ b ∈ l, (He.cT K a).2 = (He.cT K b).2 → a = b := by
      intro l
      induction l with
      | nil => intro _ a ha; cases ha
      | cons z l ih =>
        intro hn a ha b hb eab
        rw [List.map_cons, List.nodup_cons] at hn
        rcases List.mem_cons.mp ha with e1 | h1
        · rcases List.mem_cons.mp hb with e2 | h2
          · rw [e1, e2]
          · exact absurd (List.mem_map.mpr ⟨b, h2, by rw [← eab, e1]⟩) hn.1
        · rcases List.mem_cons.mp hb with e2 | h2
          · exact absurd (List.mem_map.mpr ⟨a, h1, by rw [eab, e2]⟩) hn.1
          · exact ih hn.2 a h1 b h2 eab
    exact inj nd d' hd' d h e
  rw [this]
end EK


namespace EK
open PySem PySem.Spec PyProof.Rows L2
section
variable {K : PySem.W.Frag} {tf : List He.Defn} {nm : He.Defn → Str} {H : Hp}
theorem tabs_on (h : ∀ p ∈ tf.map (He.cT K), H p.2 = some (.tbl #[])) : ∀ p ∈ tabsOf K tf nm, H p.1 = some (.tbl #[]) := fun p hp => by
  obtain ⟨d, hd, rfl⟩ := List.mem_map.mp hp
  exact h (He.cT K d) (List.mem_map.mpr ⟨d, hd, rfl⟩)
theorem tabs_map : (tabsOf K tf nm).map (·.1) = (tf.map (He.cT K)).map (·.2) := by
  unfold tabsOf
  rw [List.map_map, List.map_map]
  rfl
theorem tabs_on2 (h : ∀ b, H b = none ∨ b ∈ (tf.map (He.cT K)).map (·.2) ∨ ∃ o xs, H b = some (.frz o (.lst xs))) : ∀ b, H b = none ∨ b ∈ (tabsOf K tf nm).map (·.1) ∨ ∃ o xs, H b = some (.frz o (.lst xs)) := by
  rw [tabs_map]; exact h
/-- the tables in the base -/
abbrev TBs (K : PySem.W.Frag) (tf : List He.Defn) (mg : Str → Option Value) (base : Heap) : Prop := ∀ p ∈ tf.map (He.cT K), LamX.TabB base mg p.1 p.2
theorem TBs.at {mg : Str → Option Value} {base : Heap} (h : TBs K tf mg base) {d : He.Defn} (hd : d ∈ tf) : LamX.TabB base mg (He.cT K d).1 (He.cT K d).2 := h _ (List.mem_map.mpr ⟨d, hd, rfl⟩)
end
end EK


namespace EK
open PySem PySem.Spec PyProof.Rows L2
theorem no_clx {K : PySem.W.Frag} {mg : Str → Option Value} {T : Value} : ∀ c b, ([] : List (Str × Bool)).lookup c = some b → IsiX K mg c T b := fun _ _ h => nomatch h
theorem one_clx {K : PySem.W.Frag} {mg : Str → Option Value} {T : Value} {x : Str} {k : Bool} {l : List (Str × Bool)} (h0 : IsiX K mg x T k) (h1 : ∀ c b, l.lookup c = some b → IsiX K mg c T b) : ∀ c b, ((x, k) :: l).lookup c = some b → IsiX K mg c T b := fun c b h => by
  rw [List.lookup_cons] at h
  cases e : c == x with
  | true =>
    rw [e] at h
    cases h
    rw [eq_of_beq e]; exact h0
  | false => rw [e] at h; exact h1 c b h
theorem no_flx {K : PySem.W.Frag} {mg : Str → Option Value} {n : Str} : ∀ c ∈ ([] : List Str), FldX K mg c n := fun _ h => (nomatch h)
theorem one_flx {K : PySem.W.Frag} {mg : Str → Option Value} {n x : Str} {l : List Str} (h0 : FldX K mg x n) (h1 : ∀ c ∈ l, FldX K mg c n) : ∀ c ∈ x :: l, FldX K mg c n := fun c h => by
  rcases List.mem_cons.mp h with e | h
  · rw [e]; exact h0
  · exact h1 c h
end EK


namespace EK
open PySem PySem.Spec PyProof.Rows L2
section
variable {X : Cx} {dl : Dr} {W : WX} {pos : Pos}
def negD : D → Option D
  | .int i => some (.int (-i))
  | _ => none
theorem ud_neg : UnR X (unaryOp .USub) (rUD X dl negD) := by
  intro pins s sg H x v Q I rx q
  obtain ⟨F, st, a, d, w, ra, e, k⟩ := q
  match a, e with
  | .int i, e =>
    cases e
    cases (show x = .int i from ra)
    exact un_neg pins s sg H (.int i) v Q I rx ⟨i, rfl, k F H _ Step.refl w rfl⟩
  | .non, e => cases e
  | .bl _, e => cases e
  | .str _, e => cases e
  | .tup _, e => cases e
  | .lst _, e => cases e
  | .obj _ _ _, e => cases e
  | .drw, e => cases e
  | .scr _, e => cases e
  | .dct _ _, e => cases e
  | .dcT _ _, e => cases e
  | .exc _ _ _, e => cases e
end
end EK


namespace EK
open PySem PySem.Spec PyProof.Rows L2
section
variable {J : It} {n : Nat} {Gd : Hp → Prop} {Y : Nat → Hp → V → Hp → Prop}
end
section
variable {X : Cx} {dl : Dr} {W : WX} {pos p tpos : Pos}
/-- the pairs, one by one -/
def dcM (f : SG) (u : ST) (hk hv : SE) (G : Sls) : List D → M (List (Key × D))
  | [] => ret []
  | d :: ds => bnd (ofO (f G d)) fun G' => bnd (u G') fun k => if k then bnd (hk G') fun y => bnd (hv G') fun z => bnd (ofO (keyOf y)) fun j => bnd (dcM f u hk hv G ds) fun r => ret ((j, z) :: r) else dcM f u hk hv G ds
def gDcP (vs : List Nat) (it : SA) (f : SG) (u : ST) (hk hv : SE) : Sls → M (List (Key × D)) := fun G => bnd (it G) fun ds => noErr (dcM f u hk hv (wipeG G vs) ds)
def gDc (vs : List Nat) (it : SA) (f : SG) (u : ST) (hk hv : SE) : SE := fun G => bnd (gDcP vs it f u hk hv G) fun kvs => ofO (dictOf kvs)
def NewDk (X : Cx) (dl : Dr) (H : Hp) (kvs : List (Key × D)) (F' H' : Hp) (a : Addr) : Prop :=
  H a = none ∧ F' a = none ∧ ∃ vs : List V, H' a = some (.dK (mergeK [] ((kvs.map (·.1)).zip vs))) ∧ kvs.length = vs.length ∧ RepL X.K X.mg dl F' (kvs.map (·.2)) vs
def tDk (X : Cx) (dl : Dr) (W : WX) (f : Sls → M (List (Key × D))) : TE := fun sg H Q => ∃ F, tGF X dl W F f (fun kvs F' H' => ∀ a, NewDk X dl H kvs F' H' a → Q (.ref a) H') sg H
def textsK : List Key → Option (List Str)
  | [] => some []
  | .inr x :: ks => (textsK ks).map (x :: ·)
  | .inl _ :: _ => none
def sortedDc : List D → Option D
  | [.dct ks _] => (textsK ks).bind fun xs => if xs.length < 64 then some (.lst ((sortS xs).map D.str)) else none
  | _ => none
end
end EK


namespace EK
open PySem PySem.Spec PyProof.Rows L2
def TupC (K : PySem.W.Frag) (mg : Str → Option Value) (x : Str) (zs : List Str) : Prop :=
  ∃ (a : Addr) (o : Obj) (its : Array Value) (n : Nat), mg x = some (.ref a) ∧ K.lookup a = some o ∧ o.cls = .type "tuple" ∧ o.data = .seq its n ∧ its.size ≤ 1000 ∧ Vals (zs.map V.str) its.toList
theorem strsB_vals : ∀ {vs : List Value} {zs : List Str}, strsB vs zs = true → Vals (zs.map V.str) vs
  | [], [], _ => .nil
  | .str x t :: vs, y :: ys, h => by
    have h : (decide (x = y) && strsB vs ys) = true := h
    rw [Bool.and_eq_true] at h
    have e : x = y := of_decide_eq_true h.1
    subst e
    exact .cons ⟨t, rfl⟩ (strsB_vals h.2)
  | [], _ :: _, h => by cases h
  | v :: vs, [], h => by cases v <;> cases h
  | .none :: _, _ :: _, h => by cases h
  | .bool _ :: _, _ :: _, h => by cases h
  | .int _ _ :: _, _ :: _, h => by cases h
  | .ref _ :: _, _ :: _, h => by cases h
  | .type _ :: _, _ :: _, h => by cases h
  | .builtin _ :: _, _ :: _, h => by cases h
theorem tupC_ok {K : PySem.W.Frag} {mg : Str → Option Value} {x : Str} {zs : List Str} (gl : mg x = some (.ref (He.ga K x))) (c : (Fx.tupS x zs).ok K = true) : TupC K mg x zs := by
  have c : (match K.lookup (He.ga K x) with
    | some o => (match o.data with
      | .seq its _ => decide (o.cls = .type "tuple") && (decide (its.size ≤ 1000) && strsB its.toList zs)
      | _ => false)
    | none => false) = true := c
  cases e : K.lookup (He.ga K x) with
  | none => rw [e] at c; cases c
  | some o =>
    rw [e] at c
    have c : (match o.data with
      | .seq its _ => decide (o.cls = .type "tuple") && (decide (its.size ≤ 1000) && strsB its.toList zs)
      | _ => false) = true := c
    split at c
    · rename_i its n hd
      obtain ⟨c1, c2⟩ := Bool.and_eq_true_iff.mp c
      obtain ⟨c2, c3⟩ := Bool.and_eq_true_iff.mp c2
      exact ⟨_, o, its, n, gl, e, of_decide_eq_true c1, hd, of_decide_eq_true c2, strsB_vals c3⟩
    · cases c
section
variable {X : Cx} {dl : Dr} {W : WX} {pos : Pos}
def gTupS (zs : List Str) : SE := fun _ => ret (.tup (zs.map D.str))
theorem de_tupS {x : Str} {zs : List Str} (hg : Gl X x) (h : TupC X.K X.mg x zs) (hd : (x == ("__debug__" : Str)) = false := by decide) : DE X dl W (.Name x pos) (gTupS zs) := by
  obtain ⟨a, o, its, n, h1, h2, h3, h4, h5, h6⟩ := h
  refine PE.of (pe_glob hg h1 (v := .ref a) rfl hd) fun sg H Q q => ?_
  obtain ⟨F, q⟩ := q
  have hl : (zs.map V.str).length = its.size := h6.length.trans (by simp)
  refine q.rt (.ref a) ⟨a, zs.map V.str, rfl, .inr ⟨o, its, n, h2, h3, h4, by rw [sizeLine_eq]; omega, h6⟩, by rw [sizeLine_eq]; omega, repL_strs'⟩
end
end EK


namespace EK
open PySem PySem.Spec PyProof.Rows L2
section
variable {X : Cx} {dl : Dr} {W : WX} {pos : Pos}
def gPairs : List (SE × SE) → Sls → M (List (Key × D))
  | [], _ => ret []
  | p :: r, G => bnd (p.1 G) fun y => bnd (p.2 G) fun z => bnd (ofO (keyOf y)) fun j => bnd (gPairs r G) fun rest => ret ((j, z) :: rest)
def dictOf15 (kvs : List (Key × D)) : Option D := if kvs.length ≤ 15 then dictOf kvs else none
def gDisp (l : List (SE × SE)) : SE := fun G => bnd (gPairs l G) fun kvs => ofO (dictOf15 kvs)
abbrev trsOf (X : Cx) (dl : Dr) (W : WX) (l : List (SE × SE)) : List (TE × TE) := l.map fun p => (tD X dl W p.1, tD X dl W p.2)
end
end EK


namespace EK
open PySem PySem.Spec PyProof.Rows L2
structure MkFD (P : Program) (w : World) (K : PySem.W.Frag) (mg : Str → Option Value) (base : Heap) (c : Str) (k n : Nat) (m : List D → M (List Str × List D)) (dd : List D) : Prop where
  ex : ∃ (C g : Addr) (fd : FuncData) (ps : List Str) (ds : List Value) (dvs : List V), mg c = some (.ref C) ∧ Mk K C g ∧ ps.length = n + 1 ∧ Vals dvs ds ∧ Binds K fd ps ds ∧ (∀ dl F, RepL K mg dl F dd dvs) ∧ FnOk P w K mg base (L2.CX P w) k g fd ps (spI K mg c n m)
theorem makeD_of {P : Program} {w : World} {K : PySem.W.Frag} {mg : Str → Option Value} {base : Heap} {x : Str} {k n : Nat} {mm : List D → M (List Str × List D)} {fd : FuncData} {ps : List Str} {dvs : List V} {dd : List D} (gl : mg x = some (.ref (He.ga K x))) (c : (He.Fa.mkr x).ok K = true) (hl : ps.length = n + 1)
    (hb : ∃ ds, Vals dvs ds ∧ Binds K fd ps ds) (hd : ∀ dl F, RepL K mg dl F dd dvs) (F : FnOk P w K mg base (L2.CX P w) k (He.ma K (He.ga K x) "__init__") fd ps (spI K mg x n mm)) : MkFD P w K mg base x k n mm dd := by
  obtain ⟨ds, h1, h2⟩ := hb
  exact ⟨_, _, fd, ps, ds, dvs, gl, He.mkr_ok c, hl, h1, h2, hd, F⟩
section
variable {X : Cx} {dl : Dr} {W : WX} {pos p : Pos} {e : Expr} {es : List Expr} {ra : SA}
def gMakeD (c : Str) (n : Nat) (m : List D → M (List Str × List D)) (dd : List D) (ra : SA) : SE := fun G => bnd (ra G) fun ds => if (ds ++ dd).length = n then bnd (m (ds ++ dd)) fun r => ret (.obj c r.1 r.2) else fail
theorem de_makeD {dd : List D} {c : Str} {k n : Nat} {m : List D → M (List Str × List D)} (h : MkFD X.prog X.w X.K X.mg X.base c k n m dd) (hr : Room (k + 1) X.A) (tk : Takes X W) (hW : ∀ cl d sg sg' H, W cl d sg H → W cl d sg' H) (ha : DA X dl W (e :: es) ra) (hg : Gl X c := by rfl)
    (hdb : (c == ("__debug__" : Str)) = false := by decide) (he : starEach (e :: es) X.env = (false, eval e X.env) :: starEach es X.env := by rfl) (hpl : (backTo pos (starEach es X.env)).any (·.1) = false := by rfl) :
    DE X dl W (.Call (.Name c p) (e :: es) [] pos) (gMakeD c n m dd ra) := by
  obtain ⟨C, g, fd, ps, dsv, dvs, h1, h2, h3, h6, h4, h7, h5⟩ := h.ex
  refine PE.of (pe_make (E := fun cl d H => ∀ sg, W cl d sg H) h2 h5 hr hg h1 h4 h6 (passes_call tk fun cl d sg H z => z sg) ha hdb he hpl) fun sg H Q q => ?_
  obtain ⟨F, F0, H0, G, s, w, S, g⟩ := q
  refine ⟨F, F0, H0, G, s, w, S, g.bnd.imp fun ds0 s1 F1 H1 st1 w1 g1 vs0 rvs0 x dx nx ndx ne => ?_⟩
  have rvs : RepL X.K X.mg dl F1 (ds0 ++ dd) (vs0 ++ dvs) := rvs0.append (h7 dl F1)
  clear rvs0
  generalize ds0 ++ dd = ds at g1 rvs
  generalize vs0 ++ dvs = vs at rvs ⊢
  by_cases hl : ds.length = n
  case neg => rw [if_neg hl] at g1; exact g1.elim
  rw [if_pos hl] at g1
  have hd : (Dr.mk dl.a dl.w dl.c x dx dl.tabs).a = dl.a ∧ (Dr.mk dl.a dl.w dl.c x dx dl.tabs).w = dl.w ∧ (Dr.mk dl.a dl.w dl.c x dx dl.tabs).c = dl.c ∧ (Dr.mk dl.a dl.w dl.c x dx dl.tabs).tabs = dl.tabs := ⟨rfl, rfl, rfl, rfl⟩
  have hd' : dl.a = (Dr.mk dl.a dl.w dl.c x dx dl.tabs).a ∧ dl.w = (Dr.mk dl.a dl.w dl.c x dx dl.tabs).w ∧ dl.c = (Dr.mk dl.a dl.w dl.c x dx dl.tabs).c ∧ dl.tabs = (Dr.mk dl.a dl.w dl.c x dx dl.tabs).tabs := ⟨rfl, rfl, rfl, rfl⟩
  refine ⟨Dr.mk dl.a dl.w dl.c x dx dl.tabs, F1, H1, ds, vs, s1, C, rfl, by rw [← rvs.length, hl], h1, w1.toDl hd, nx, ndx, ne, rfl, RepL.dl hd'.1 _ _ rvs, ?_⟩
  have g2 := Go.at (F1 := F1) (H1 := H1) Step.refl g1
  cases er : m ds s1 with
  | none => rw [er] at g2; exact g2
  | some pr =>
    obtain ⟨r, s2⟩ := pr
    rw [er] at g2
    cases r with
    | err xx =>
      intro F' H' cl d st wd xr sg'
      refine hW cl d sg sg' H' (g2 F' H' cl d (st.toDl hd') (wd.toDl hd') ?_)
      obtain ⟨C0, x1, x2, x3⟩ := xr
      refine ⟨C0, x1, x2, ?_⟩
      rcases x3 with x3 | ⟨x3, a, ws, y1, y2, y3, y4⟩
      · exact .inl x3
      · exact .inr ⟨x3, a, ws, y1, y2, y3, RepL.dl hd.1 _ _ y4⟩
    | ok r =>
      intro F' H' st wd us o1 o2 f1 f2 hlen rp
      have st' : Step dl F1 H1 F' H' := st.toDl hd'
      have wd' : Wd dl F' H' s2 := wd.toDl hd'
      have g3 := g2 F' H' st' wd'
      have o1 : H' x = some (.ins C dx (r.1.zip us)) := o1
      have o2 : H' dx = some (.own x) := o2
      have f1 : F' x = none := f1
      have f2 : F' dx = none := f2
      have nhx : ¬ dl.has x := w1.na nx
      have nhdx : ¬ dl.has dx := w1.na ndx
      have f1' : (upd F' dx (.own x)) x = none := by rw [upd_ne (Ne.symm ne)]; exact f1
      have w3 := (wd'.freeze o2 f2 nhdx).freeze o1 f1' nhx
      have sm1 : Same F' (upd F' dx (.own x)) := Same.updN f2
      have sm2 : Same (upd F' dx (.own x)) (upd (upd F' dx (.own x)) x (.ins C dx (r.1.zip us))) := Same.updN f1'
      have smA : Same F' (upd (upd F' dx (.own x)) x (.ins C dx (r.1.zip us))) := fun b o e => sm2 b o (sm1 b o e)
      refine ⟨rfl, g3 _ H' ⟨fun b o e => smA b o (st'.fs b o e), st'.hs, fun b o e => ?_, st'.al⟩ w3 _ ⟨x, dx, C, us, rfl, h1, upd_same, by rw [upd_ne ne]; exact upd_same, hlen, RepL.mono smA _ _ (RepL.dl hd.1 _ _ rp)⟩⟩
      by_cases z1 : b = x
      · exact .inr (by rw [z1]; exact nx)
      · rw [upd_ne z1] at e
        by_cases z2 : b = dx
        · exact .inr (by rw [z2]; exact ndx)
        · rw [upd_ne z2] at e; exact st'.nw b o e
end
end EK


namespace EK
open PySem PySem.Spec PyProof.Rows L2
section
variable {X : Cx} {dl : Dr} {W : WX} {o e : Expr} {fa fb : SE} {apos pos : Pos}
def joinD (a : Str) (d : D) : Option D := (txts d).bind fun ys => if (ys.map (·.length)).sum + ys.length * a.length ≤ 16777216 then some (.str (Txt.join a ys)) else none
def gJoin (fa fb : SE) : SE := fun G => bnd (fa G) fun x => bnd (ofO (txt x)) fun a => bnd (fb G) fun y => ofO (joinD a y)
def intO : D → Option Int
  | .int i => some i
  | _ => none
def sumD : List D → Option D
  | [.lst ds] => (ds.mapM intO).map fun ns => .int ns.sum
  | _ => none
theorem mapM_int : ∀ {ds : List D} {xs : List Int}, ds.mapM intO = some xs → ds = xs.map D.int
  | [], xs, h => by simp at h; subst h; rfl
  | d :: ds, xs, h => by
    rw [List.mapM_cons] at h
    cases d with
    | int i =>
      cases h2 : ds.mapM intO with
      | none => rw [h2] at h; cases h
      | some ys =>
        rw [h2] at h
        cases (show some (i :: ys) = some xs from h)
        rw [mapM_int h2]; rfl
    | _ => cases h
theorem reps_int {K : PySem.W.Frag} {mg : Str → Option Value} {F : Hp} : ∀ {ys : List Int} {vs : List V}, RepL K mg dl F (ys.map D.int) vs → vs = ys.map V.int
  | [], vs, r => r
  | y :: ys, vs, r => by
    obtain ⟨v, vs', rfl, r1, r2⟩ := r
    rw [show v = V.int y from r1, reps_int r2]; rfl
end
end EK


namespace EK
open PySem PySem.Spec PyProof.Rows L2
abbrev SN := Sls → M (List D)
section
variable (X : Cx) (dl : Dr) (W : WX)
def GoN (F0 H0 : Hp) (r : Option (Res (List D) × DS)) (E : Ends) : Prop := match r with
  | none => False
  | some (.ok ds, s') => ∀ F' H' a, Step dl F0 H0 F' H' → Wd dl F' H' s' → NewL X dl H0 ds F' H' a → E.rt (.ref a) H'
  | some (.err x, s') => ∀ F' H' sg' cls d, Step dl F0 H0 F' H' → Wd dl F' H' s' → ExRep X.mg X.K dl F' H' x cls d → W cls d sg' H'
def tSN (f : SN) : TS := fun E sg H => ∃ (F0 H0 F : Hp) (G : Sls) (s : DS), Wd dl F H s ∧ Sim X.K X.mg dl F0 H0 F H sg G ∧ GoN X dl W F0 H0 (f G s) E
abbrev DSN (st : List Stmt) (f : SN) : Prop := PSs X st (tSN X dl W f)
end
section
variable {X : Cx} {dl : Dr} {W : WX} {pos p : Pos}
def sSeqN (f : SS) (g : SN) : SN := fun G => bnd (f G) fun o => match o with
  | .next G' => g G'
  | _ => fail
/-- return x, x the def's own list -/
def gOwnV (i : Nat) : SN := fun G => ofO (ownAt G i)
end
def spN (K : PySem.W.Frag) (mg : Str → Option Value) (n : Nat) (m : List D → M (List D)) : Sp := fun vs H Q E => vs.length = n ∧ ∃ (dl : Dr) (F : Hp) (ds : List D) (s : DS), Wd dl F H s ∧ RepL K mg dl F ds vs ∧
  Go mg K dl E F H (m ds s) fun es _ F' H' => ∀ a, (H a = none ∧ F' a = none ∧ ∃ ws, H' a = some (.lst ws) ∧ ws.length ≤ sizeLine ∧ RepL K mg dl F' es ws) → Q (.ref a) H'
def runN (n : Nat) (b : SN) (ds : List D) : M (List D) := b (startG n ds)
structure DFnN (P : Program) (w : World) (K : PySem.W.Frag) (mg : Str → Option Value) (base : Heap) (x : Str) (k n : Nat) (m : List D → M (List D)) : Prop where
  ex : ∃ (f : Addr) (fd : FuncData) (ps : List Str), mg x = some (.ref f) ∧ PySem.W.keepIn K (.ref f) = true ∧ ps.length = n ∧ Binds K fd ps [] ∧ FnOk P w K mg base (L2.CX P w) k f fd ps (spN K mg n m)
section
variable {X : Cx} {dl : Dr} {W : WX} {pos p : Pos} {x : Str} {e : Expr} {es : List Expr} {ra : SA} {k n : Nat} {m : List D → M (List D)}
def gCallN (n : Nat) (m : List D → M (List D)) (ra : SA) : SA := fun G => bnd (ra G) fun ds => if ds.length = n then m ds else fail
def sTmp (f : SA) : SS := fun G => bnd (f G) fun ds => if ds.length < sizeLine then ret (.next G) else fail
def minZ : Int → List Int → Int
  | i, [] => i
  | i, j :: r => minZ (if j < i then j else i) r
def minLD : List D → Option D
  | [.lst ds] => (ds.mapM intO).bind fun ns => match ns with
    | i :: r => some (.int (minZ i r))
    | [] => none
  | _ => none
end
end EK


namespace EK
open PySem PySem.Spec PyProof.Rows L2
section
variable {X : Cx} {dl : Dr} {W : WX} {a b e : Expr} {fa fb : SE} {pos p : Pos}
def catL : D → D → Option (List D)
  | .lst xs, .lst ys => if xs.length + ys.length ≤ sizeLine then some (xs ++ ys) else none
  | _, _ => none
def gCatO (fa fb : SE) : SA := fun G => bnd (fa G) fun x => bnd (fb G) fun y => ofO (catL x y)
def revL : D → Option (List D)
  | .lst xs => some xs.reverse
  | _ => none
theorem RepL.reverse {K : PySem.W.Frag} {mg : Str → Option Value} {F : Hp} : ∀ {ds : List D} {vs : List V}, RepL K mg dl F ds vs → RepL K mg dl F ds.reverse vs.reverse
  | [], vs, h => by have h : vs = [] := h; subst h; rfl
  | d :: ds, vs, h => by
    obtain ⟨v, vs', rfl, h1, h2⟩ := h
    rw [List.reverse_cons, List.reverse_cons]
    exact (RepL.reverse h2).append ⟨v, [], rfl, h1, rfl⟩
def gRevO (fa : SE) : SA := fun G => bnd (fa G) fun d => ofO (revL d)
def asI2 : List D → Option (List D)
  | [.int n] => if -1000000 ≤ n ∧ n < 1000000 then some (upFrom 0 n.toNat) else none
  | [.int a, .int b] => if -1000000 ≤ a ∧ a < 1000000 ∧ -1000000 ≤ b ∧ b < 1000000 then some (upFrom a (b - a).toNat) else none
  | _ => none
theorem reps_up {K : PySem.W.Frag} {mg : Str → Option Value} {F : Hp} (a b : Int) : RepL K mg dl F (upFrom a (b - a).toNat) (rgV a b) := by
  unfold upFrom rgV
  generalize List.range (b - a).toNat = l
  induction l with
  | nil => rfl
  | cons i l ih => exact ⟨_, _, rfl, rfl, ih⟩
theorem deo_rng2 {p pr q1 : Pos} (hc : X.calm = true) (hg : Gl X "list") (hm : X.mg "list" = none) (hg' : Gl X "range") (hm' : X.mg "range" = none) (ha : DE X dl W a fa) (hb : DE X dl W b fb)
    (na : starEach [a, b] X.env = (false, eval a X.env) :: starEach [b] X.env := by rfl) (nz : starEach [b] X.env = (false, eval b X.env) :: starEach [] X.env := by rfl) (hp : (backTo q1 (starEach [b] X.env)).any (fun x => x.1) = false := by rfl)
    (nb : starEach [.Call (.Name "range" pr) [a, b] [] q1] X.env = (false, eval (.Call (.Name "range" pr) [a, b] [] q1) X.env) :: starEach [] X.env := by rfl) :
    DEO X dl W (.Call (.Name "list" p) [.Call (.Name "range" pr) [a, b] [] q1] [] pos) (gItC asI2 (saC fa (saC fb sa0))) := by
  refine PE.of (pe_listRg hc hg hm (prg_2 hg' hm' ha hb na nz hp) nb) fun sg H Q q => ?_
  obtain ⟨F, F0, H0, G, s, w, S, g⟩ := q
  refine ⟨F, F0, H0, G, s, w, S, ?_⟩
  unfold gItC saC sa0 at g
  rw [bnd_assoc] at g
  refine g.bnd.imp fun x s1 F1 H1 st1 w1 g1 v rv => ⟨F1, F0, H0, G, s1, w1, S.step st1, ?_⟩
  rw [bnd_assoc, bnd_assoc] at g1
  refine g1.bnd.imp fun y s2 F2 H2 st2 w2 g2 u ru => ?_
  rw [bnd_ret, bnd_ret, bnd_ret] at g2
  obtain ⟨xs, e1, g3⟩ := g2.ofO
  cases x with
  | int m =>
    cases y with
    | int n =>
      have e1 : (if -1000000 ≤ m ∧ m < 1000000 ∧ -1000000 ≤ n ∧ n < 1000000 then some (upFrom m (n - m).toNat) else none) = some xs := e1
      split at e1
      · rename_i hz
        cases e1
        have rv : v = .int m := rv
        have ru : u = .int n := ru
        have r := reps_up (dl := dl) (K := X.K) (mg := X.mg) (F := F2) m n
        refine ⟨m, n, rv, ru, ⟨by omega, by omega, by omega, by omega, by omega⟩, fun q hq => g3 _ _ (Step.newO hq) (w2.newO hq) q ⟨(st1.trans st2).al q hq, w2.fnone hq, _, upd_same, ?_, r⟩⟩
        rw [← r.length, upFrom_length, sizeLine_eq]; omega
      · cases e1
    | _ => cases e1
  | _ => cases e1
def maxZ : Int → List Int → Int
  | i, [] => i
  | i, j :: r => maxZ (if j > i then j else i) r
theorem maxZ_ge : ∀ (i : Int) (r : List Int), i ≤ maxZ i r ∧ ∀ j ∈ r, j ≤ maxZ i r
  | i, [] => ⟨Int.le_refl _, fun _ h => nomatch h⟩
  | i, j :: r => by
    have ih := maxZ_ge (if j > i then j else i) r
    rw [maxZ]
    refine ⟨Int.le_trans (by split <;> omega) ih.1, fun y hy => ?_⟩
    rcases List.mem_cons.mp hy with e | e
    · subst e
      exact Int.le_trans (by split <;> omega) ih.1
    · exact ih.2 y e
theorem maxZ_mem : ∀ (i : Int) (r : List Int), maxZ i r ∈ i :: r
  | i, [] => .head _
  | i, j :: r => by
    have ih := maxZ_mem (if j > i then j else i) r
    rw [maxZ]
    rcases List.mem_cons.mp ih with e | e
    · rw [e]
      split
      · exact .tail _ (.head _)
      · exact .head _
    · exact .tail _ (.tail _ e)
def maxLD : List D → Option D
  | [.lst ds] => (ds.mapM intO).bind fun ns => match ns with
    | [] => none
    | i :: r => some (.int (maxZ i r))
  | [.int i, .int j] => some (.int (if j > i then j else i))
  | _ => none
theorem cd_max (hc : X.calm = true) : CallR X (.builtin "max") (rCD X dl maxLD) := by
  intro pins s sg H xs us Q I rx q
  obtain ⟨F, s1, ds, d, w, rp, e, k⟩ := q
  unfold maxLD at e
  split at e
  · rename_i ds'
    obtain ⟨v, rfl, a, vs, rfl, h1, h2, h3⟩ := repL1 rp
    cases em : ds'.mapM intO with
    | none => rw [em] at e; cases e
    | some ns =>
      rw [em] at e
      cases ns with
      | nil => cases e
      | cons i r =>
        cases e
        rw [mapM_int em] at h3
        rw [reps_int h3] at h1
        refine cr_max hc pins s sg H _ us Q I rx ⟨a, i :: r, rfl, SqL.of (w.sub _ _ h1), by simp, fun m hm hle => ?_⟩
        have em2 : m = maxZ i r := by
          have a1 := hle _ (maxZ_mem i r)
          have a2 : m ≤ maxZ i r := by
            rcases List.mem_cons.mp hm with z | z
            · rw [z]; exact (maxZ_ge i r).1
            · exact (maxZ_ge i r).2 m z
          omega
        rw [em2]
        exact k F H _ Step.refl w rfl
  · rename_i i j
    cases e
    obtain ⟨v, vs, rfl, h1, u, us', rfl, h2, h3⟩ := rp
    cases (show v = .int i from h1)
    cases (show u = .int j from h2)
    cases (show us' = [] from h3)
    exact call_max2 hc pins s sg H _ us Q I rx ⟨i, j, rfl, k F H _ Step.refl w rfl⟩
  · cases e
def enumD (xs : List D) : List D := xs.zipIdx.map fun p => .tup [.int (p.2 : Nat), p.1]
def enumL : List D → Option (List D)
  | [.lst xs] => some (enumD xs)
  | _ => none
theorem enumD_length (xs : List D) : (enumD xs).length = xs.length := by simp [enumD]
theorem dy_enum {F : Hp} {ds : List D} {vs : List V} (r : RepL X.K X.mg dl F ds vs) : ∀ i H1 x H2, YPair (fun i => some (V.int (i : Nat))) (fun i => vs[i]?) i H1 x H2 → DY X dl F (enumD ds) i H1 x H2 := fun i H1 x H2 y F1 s sm w => by
  obtain ⟨T, a, b, e1, e2, e3, e4, e5⟩ := y
  subst e1; subst e3
  obtain ⟨d, h1, h2⟩ := r.get' e5
  cases e4
  have hz : (enumD ds)[i]? = some (.tup [.int (i : Nat), d]) := by
    unfold enumD
    rw [List.getElem?_map, List.getElem?_zipIdx, h1]
    simp
  exact ⟨_, .tup [.int (i : Nat), d], Step.new w e2, w.new e2, hz, T, [_, b], rfl, SqT.of upd_same, two_le, _, [b], rfl, rfl, b, [], rfl, Rep.mono (Step.new w e2).fs _ _ (Rep.mono sm _ _ h2), rfl⟩
def isBD : D → D → Option D
  | .bl a, .bl b => some (.bl (decide (a = b)))
  | _, _ => none
def notBD : D → D → Option D
  | .bl a, .bl b => some (.bl (!decide (a = b)))
  | _, _ => none
end
end EK


namespace EK
open PySem PySem.Spec PyProof.Rows L2
structure MethN (P : Program) (w : World) (K : PySem.W.Frag) (mg : Str → Option Value) (base : Heap) (c m : Str) (k n : Nat) (fm : List D → M (List D)) : Prop where
  ex : ∃ (C g : Addr) (fd : FuncData) (ps : List Str), mg c = some (.ref C) ∧ Cls K C ∧ Meth K C m g ∧ ps.length = n + 1 ∧ Binds K fd ps [] ∧ FnOk P w K mg base (L2.CX P w) k g fd ps (spN K mg (n + 1) fm)
structure PropN (P : Program) (w : World) (K : PySem.W.Frag) (mg : Str → Option Value) (base : Heap) (c f : Str) (k : Nat) (m : List D → M (List D)) : Prop where
  ex : ∃ (C p g : Addr) (fd : FuncData) (ps : List Str), mg c = some (.ref C) ∧ Cls K C ∧ PropOf K C f p g ∧ ps.length = 1 ∧ Binds K fd ps [] ∧ FnOk P w K mg base (L2.CX P w) k g fd ps (spN K mg 1 m)
section
variable {P : Program} {w : World} {K : PySem.W.Frag} {mg : Str → Option Value} {base : Heap} {c m : Str} {k n : Nat} {C g : Addr} {fd : FuncData} {ps : List Str} {fm : List D → M (List D)}
end
section
variable {X : Cx} {dl : Dr} {W : WX} {e : Expr} {fe : SE} {pos apos p : Pos}
def gMethN0 (c m : Str) (fm : List D → M (List D)) (fe : SE) : SA := fun G => bnd (fe G) fun d => if isC c d && noFld m d then fm [d] else fail
def gPropN (c : Str) (m : List D → M (List D)) (fe : SE) : SA := fun G => bnd (fe G) fun d => if isC c d then noErr (m [d]) else fail
def sTmpC (f : SA) : SS := fun G => bnd (f G) fun _ => ret (.next G)
end
end EK


namespace EK
open PySem PySem.Spec PyProof.Rows L2
/-- a method called by the keywords ks; is: where its parameters stand among them -/
structure MethK (P : Program) (w : World) (K : PySem.W.Frag) (mg : Str → Option Value) (base : Heap) (c m : Str) (k : Nat) (ks : List Str) (is : List Nat) (N : Nat) (fm : List D → M D) : Prop where
  ex : ∃ (C g : Addr) (fd : FuncData) (ps : List Str), mg c = some (.ref C) ∧ Cls K C ∧ Meth K C m g ∧ ps.length = N + 1 ∧ KBn K fd ps 1 ks (fun us ws => us ++ pickL is ws) (fun vs zs => vs ++ pickL is zs) ∧ FnOk P w K mg base (L2.CX P w) k g fd ps (spD K mg (N + 1) fm)
structure MkFK (P : Program) (w : World) (K : PySem.W.Frag) (mg : Str → Option Value) (base : Heap) (c : Str) (k : Nat) (ks : List Str) (is : List Nat) (N : Nat) (m : List D → M (List Str × List D)) : Prop where
  ex : ∃ (C g : Addr) (fd : FuncData) (ps : List Str), mg c = some (.ref C) ∧ Mk K C g ∧ ps.length = N + 1 ∧ KBn K fd ps 1 ks (fun us ws => us ++ pickL is ws) (fun vs zs => vs ++ pickL is zs) ∧ FnOk P w K mg base (L2.CX P w) k g fd ps (spI K mg c N m)
section
variable {X : Cx} {dl : Dr} {W : WX} {pos apos p : Pos} {e : Expr} {fe : SE} {kws : List Keyword} {rk : SA} {k N : Nat} {ks : List Str} {is : List Nat} {c m : Str}
def gMethK (c m : Str) (l N : Nat) (is : List Nat) (fm : List D → M D) (fe : SE) (rk : SA) : SE := fun G => bnd (fe G) fun d => if isC c d && noFld m d then bnd (rk G) fun es => if es.length = l ∧ (pickL is es).length = N then fm (d :: pickL is es) else fail else fail
def gMakeK (c : Str) (l N : Nat) (is : List Nat) (m : List D → M (List Str × List D)) (rk : SA) : SE := fun G => bnd (rk G) fun es => if es.length = l ∧ (pickL is es).length = N then bnd (m (pickL is es)) fun r => ret (.obj c r.1 r.2) else fail
end
end EK


namespace EK
open PySem PySem.Spec PyProof.Rows L2
section
variable {prog : Program} {w : World} {A : Around} {E : Value → Shared → Prop} {s : Shared}
theorem nextOf_tup_item {it t : Addr} {i : Nat} {items : Array Value} {x : Value} {Q : Value → Shared → Prop} (hi : s.heap.IsTupleIter it t i) (ht : s.heap.IsTuple t items) (hx : items[i]? = some x)
    (hQ : ∀ h', h'.IsTupleIter it t (i + 1) → Heap.SameBut it s.heap h' → Q x { s with heap := h' }) : wpAny (model prog w) A (Builtin.SmallTypes.nextOf (.ref it)) Q E s := by
  obtain ⟨o, ho, hc, hd⟩ := id hi; obtain ⟨ol, hol, _, nl, hdl⟩ := ht; unfold Builtin.SmallTypes.nextOf
  refine wpAny_bind (wpAny_callSpecial?_slot (name := Str.ofString "__next__") hi.typeIs F.slot_tuple_iterator_next (wpAny_call_entry F.slot_tuple_iterator_next hi.typeIs F.entry_tuple_iterator_next ?_ (F.args_tuple_iterator_next_1 _)))
  show wpAny _ _ (field (.ref it) 0 >>= _) _ _ s; refine wpAny_bind (wpAny_field ho hd (x := .ref t) rfl ?_)
  show wpAny _ _ (if (Value.ref t == Value.none) = true then _ else _) _ _ s; rw [if_neg (show ¬ ((Value.ref t == Value.none) = true) from Bool.false_ne_true)]
  show wpAny _ _ (field (.ref it) 1 >>= _) _ _ s; refine wpAny_bind (wpAny_field ho hd (x := .int i 0) rfl ?_)
  show wpAny _ _ (seqItems? (.ref t) >>= _) _ _ s; refine wpAny_bind (wpAny_seqItems hol hdl ?_); simp only [Int.toNat_natCast, hx]
  refine wpAny_bind (wpAny_setField ho hd (by simp) (wpAny_pure ⟨x, rfl, wpAny_pure (hQ _ ⟨_, Heap.get?_update_self _ ho (Obj.isFreed_of_fields (Obj.data_mapFields hd _)), (Obj.cls_mapFields ..).trans hc, by rw [Obj.data_mapFields hd]; simp [rawInt]⟩ (Heap.SameBut.update ..))⟩))
theorem nextOf_tup_end {it t : Addr} {i : Nat} {items : Array Value} {Q : Value → Shared → Prop} (hh : A.handled = none) (hi : s.heap.IsTupleIter it t i) (ht : s.heap.IsTuple t items) (hx : items[i]? = none)
    (hE : ∀ h' e, Heap.ExtBut it s.heap h' → (∃ o, h'.get? e = some o ∧ o.cls = .type "StopIteration") → E (.ref e) { s with heap := h' }) : wpAny (model prog w) A (Builtin.SmallTypes.nextOf (.ref it)) Q E s := by
  obtain ⟨o, ho, hc, hd⟩ := id hi; obtain ⟨ol, hol, _, nl, hdl⟩ := ht; unfold Builtin.SmallTypes.nextOf
  refine wpAny_bind (wpAny_callSpecial?_slot (name := Str.ofString "__next__") hi.typeIs F.slot_tuple_iterator_next (wpAny_call_entry F.slot_tuple_iterator_next hi.typeIs F.entry_tuple_iterator_next ?_ (F.args_tuple_iterator_next_1 _)))
  show wpAny _ _ (field (.ref it) 0 >>= _) _ _ s; refine wpAny_bind (wpAny_field ho hd (x := .ref t) rfl ?_)
  show wpAny _ _ (if (Value.ref t == Value.none) = true then _ else _) _ _ s; rw [if_neg (show ¬ ((Value.ref t == Value.none) = true) from Bool.false_ne_true)]
  show wpAny _ _ (field (.ref it) 1 >>= _) _ _ s; refine wpAny_bind (wpAny_field ho hd (x := .int i 0) rfl ?_)
  show wpAny _ _ (seqItems? (.ref t) >>= _) _ _ s; refine wpAny_bind (wpAny_seqItems hol hdl ?_); simp only [Int.toNat_natCast, hx]
  refine wpAny_bind (wpAny_rule (wpAny_bind (wpAny_setField ho hd (by simp) ?_))); show wpAny _ _ (newExc (.type "StopIteration") [] >>= _) _ _ _
  refine wpAny_bind ?_; simp only [newExc, newTuple]; refine wpAny_bind (wpAny_newObj_type ?_ (by size_fits))
  refine wpAny_bind (m := firstArgMember _ _) (wpAny_of_eq (a := Value.none) (by first | rfl | (simp only [firstArgMember]; rfl)) ?_); refine wpAny_newObj_type ?_ (by size_fits); simp only [raiseNew]
  refine wpAny_bind (wpAny_handled ?_); first | rw [show A.in1.handled = none from hh] | rw [hh]
  refine wpAny_bind (wpAny_pure (wpAny_throw ?_)); exact hE _ _ (((Heap.SameBut.update ..).extBut.push _).push _) ⟨_, Heap.get?_push_size _ rfl, rfl⟩
end
theorem draws_tup {prog : Program} {w : World} {A : Around} (hh : A.handled = none) (it t : Addr) (hne : t ≠ it) (items : Array Value) :
    Draws prog w A it [it, t] items.size (fun i v => items[i]? = some v) (fun i h => h.IsTupleIter it t i ∧ h.IsTuple t items) where
  live := fun _ _ ⟨⟨o, ho, _⟩, _⟩ => ⟨o, ho⟩
  frame := fun _ _ _ ⟨⟨o, ho, r⟩, ⟨u, hu, q⟩⟩ hk => ⟨⟨o, hk it (.head _) o ho, r⟩, ⟨u, hk t (.tail _ (.head _)) u hu, q⟩⟩
  item := fun i s Q E hi st hQ => nextOf_tup_item st.1 st.2 (x := items[i]) (by simp [hi]) fun h' hit' hs' => hQ _ h' s.toks (by simp [hi]) ⟨hit', st.2.extBut hs'.extBut hne⟩ hs'
  done := fun s Q E st hE => nextOf_tup_end hh st.1 st.2 (by simp) hE
theorem enum_newT (t : Addr) (items : Array Value) (n : Nat) (dct : Option Addr) (sl : Array (Option Value)) :
    Meets (Builtin.«enumerate.__new__» ⟨[.type "enumerate", .ref t], []⟩) (fun _ R s => s.heap.get? t = some { cls := .type "tuple", dict := dct, data := .seq items n, slots := sl } ∧
      R (.ok (.ret (.ref (s.heap.push { cls := .type "tuple_iterator", data := .fields #[.ref t, .int 0 0] }).objs.size)))
        { s with heap := (s.heap.push { cls := .type "tuple_iterator", data := .fields #[.ref t, .int 0 0] }).push { cls := .type "enumerate", data := .fields #[.none, .bool false, .ref s.heap.objs.size, rawInt 0, .none, .none] } }) :=
  .of_wp fun prog w A R s h => by
    obtain ⟨hp, g, d, tk, os⟩ := s
    obtain ⟨hl, h⟩ := h
    have hsub := sub_enumerate
    have hL : Heap.IsTuple (Shared.heap ⟨hp, g, d, tk, os⟩) t items := ⟨_, hl, rfl, n, rfl⟩
    wp_walk using AutoSeq1.wpAny_loadPart' hl
    refine wpAny_stack_any fun st => wpAny_pure ?_
    split
    · rename_i c _ _ _ _ _
      cases (c == Value.type "enumerate") <;> (wp_walk using AutoSeq1.wpAny_loadPart' hl, wpAny_pyIter_tuple hL; exact ⟨_, rfl, h⟩)
    · wp_walk using AutoSeq1.wpAny_loadPart' hl, wpAny_pyIter_tuple hL; exact ⟨_, rfl, h⟩
section
variable {prog : Program} {w : World} {A : Around} {E : Value → Shared → Prop} {s : Shared}
theorem call_enumT {t : Addr} {items : Array Value} {Q : Value → Shared → Prop} (hL : s.heap.IsTuple t items)
    (h : ∀ h', IsEnum h' (s.heap.objs.size + 1) s.heap.objs.size 0 .none → h'.IsTupleIter s.heap.objs.size t 0 → h'.objs.size = s.heap.objs.size + 2 →
      (∀ b o, s.heap.get? b = some o → h'.get? b = some o) → Q (.ref (s.heap.objs.size + 1)) { s with heap := h' }) :
    wpAny (model prog w) A (call (.type "enumerate") [.ref t]) Q E s := by
  obtain ⟨⟨c, dct, dt, sl⟩, hl, hc, n, hd⟩ := hL
  have hc : c = .type "tuple" := hc
  have hd : dt = .seq items n := hd
  subst hc hd
  refine callType_new F.called_enumerate (by decide) (F.typeCall_enumerate_1 _) (F.newCall_enumerate_1 _) (fun obj => F.args_object_init_2 obj _) F.entry_enumerate_new (enum_newT t items n dct sl) ⟨hl, ?_⟩
  have hz : (s.heap.push { cls := .type "tuple_iterator", data := .fields #[.ref t, .int 0 0] }).objs.size = s.heap.objs.size + 1 := Heap.size_push ..
  show _ ∧ _
  rw [hz]
  have he : IsEnum ((s.heap.push { cls := .type "tuple_iterator", data := .fields #[.ref t, .int 0 0] }).push { cls := .type "enumerate", data := .fields #[.none, .bool false, .ref s.heap.objs.size, rawInt 0, .none, .none] }) (s.heap.objs.size + 1) s.heap.objs.size 0 .none := by
    have := Heap.get?_push_size (s.heap.push { cls := .type "tuple_iterator", data := .fields #[.ref t, .int 0 0] }) (o := { cls := .type "enumerate", data := .fields #[.none, .bool false, .ref s.heap.objs.size, rawInt 0, .none, .none] }) rfl
    rw [hz] at this; exact this
  exact ⟨⟨_, he, rfl⟩, h _ he ⟨_, Heap.get?_push_of_some _ (Heap.get?_push_size _ rfl), rfl, rfl⟩ (by rw [Heap.size_push, hz]) fun b o x => Heap.get?_push_of_some _ (Heap.get?_push_of_some _ x)⟩
end
theorem enum_tup_end {prog : Program} {w : World} {A : Around} {E : Value → Shared → Prop} {s : Shared} {e it l : Addr} {i : Nat} {items : Array Value} {old : Value} {Q : Option Value → Shared → Prop} (hh : A.handled = none) (he : IsEnum s.heap e it i old) (hit : s.heap.IsTupleIter it l i) (hl : s.heap.IsTuple l items) (hx : items[i]? = none)
    (hQ : ∀ h', Heap.ExtBut it s.heap h' → Q none { s with heap := h' }) : wpAny (model prog w) A (pyNext (.ref e)) Q E s := by
  have hT : s.TypeIs (.ref e) "enumerate" := ⟨_, he, rfl⟩; unfold pyNext
  refine wpAny_bind (wpAny_attempt (wpAny_callSpecial?_slot (name := Str.ofString "__next__") hT F.slot_enumerate_next (wpAny_call_entry F.slot_enumerate_next hT F.entry_enumerate_next ?_ (F.args_enumerate_next_1 _))))
  show wpAny _ _ (field (.ref e) 2 >>= _) _ _ _; refine wpAny_bind (wpAny_field he rfl (x := .ref it) rfl ?_)
  refine wpAny_bind (nextOf_tup_end hh hit hl hx fun h' x he' hx' => ?_); obtain ⟨o, ho, hc⟩ := hx'
  refine wpAny_bind (wpAny_isInstance (T := "StopIteration") (b := true) ⟨o, ho, hc⟩ isSubtype_stop ?_); exact wpAny_pure (hQ _ he')
/-- the tuple at a as it stands at each turn, each item in a new pair -/
def IteT (K : PySem.W.Frag) (a : Addr) : It :=
  ⟨fun i H => ∃ (xs : List V) (x : V), SqT K H a xs ∧ xs[i]? = some x, fun i H v H' => ∃ T x, v = .ref T ∧ H T = none ∧ H' = upd H T (.tup [.int (i : Nat), x]) ∧ ∀ xs, SqT K H a xs → xs[i]? = some x, fun i H => ∃ xs : List V, SqT K H a xs ∧ xs.length ≤ i⟩
theorem ne_en : Value.type "enumerate" ≠ Value.type "tuple" := by decide
theorem ne_ti : Value.type "tuple_iterator" ≠ Value.type "tuple" := by decide
theorem tup_ne {h : Heap} {a b : Addr} {items : Array Value} {ob : Obj} (ht : h.IsTuple a items) (e : h.get? b = some ob) (hc : ob.cls ≠ .type "tuple") : a ≠ b := by
  obtain ⟨o, ho, c, _⟩ := ht
  rintro rfl
  rw [ho] at e
  cases e
  exact hc c
theorem turn_enumT {P : Program} {w : World} {K : PySem.W.Frag} {elts : List Expr} {kk : Nat} {tpos : Pos} (a e it : Addr) :
    Turn P w K (.Tuple elts kk tpos) (IteT K a) [e, it] e (fun i h => (∃ old, IsEnum h e it ((i : Nat) : Int) old) ∧ h.IsTupleIter it a i ∧ e ≠ it) where
  mem := List.mem_cons_self
  obj := fun i h ⟨⟨old, he⟩, ⟨o, ho, hc, hd⟩, _⟩ b hb => by
    rcases List.mem_cons.mp hb with z | z
    · rw [z]; exact ⟨_, he, fun v q => nomatch q⟩
    · rw [List.mem_singleton.mp z]; exact ⟨o, ho, fun v q => by rw [hd] at q; cases q⟩
  keep := fun i h h' st k => let ⟨⟨old, he⟩, ⟨o, ho, r⟩, hne⟩ := st; ⟨⟨old, k e (.head _) _ he⟩, ⟨o, k it (.tail _ (.head _)) o ho, r⟩, hne⟩
  item := by
    intro X hP hw hK hc i pins s sg H E I hf st hg
    subst hP hw hK
    obtain ⟨⟨old, he⟩, hit, hne⟩ := st; obtain ⟨xs, x, hq, hx⟩ := hg; obtain ⟨its, rv, p, hz⟩ := I.tuple hq; obtain ⟨u, hu, ru⟩ := rv.get hx
    have p : s.heap.IsTuple a its.toArray := p
    have hel : e < s.heap.objs.size := Heap.lt_size he
    have hil : it < s.heap.objs.size := by obtain ⟨_, q, _⟩ := hit; exact Heap.lt_size q
    have nae : a ≠ e := tup_ne p he ne_en
    have nai : a ≠ it := by obtain ⟨o, ho, hc2, _⟩ := id hit; exact tup_ne p ho (by rw [hc2]; exact ne_ti)
    have hlt : i < its.toArray.size := by
      have := (List.getElem?_eq_some_iff.mp hu).1
      simpa using this
    refine wpAny_pyNext_enum_itemD (draws_tup (A := X.A.in1) (I.ok.hd hc) it a nai its.toArray) he ⟨hit, p⟩ hlt hne (fun q => by
      rcases List.mem_cons.mp q with q | q
      · exact hne q
      · exact nae (List.mem_singleton.mp q).symm) fun x' h' tk px ho hst hT hsz hk => ?_
    have px : x' = u := by
      have px : its.toArray[i]? = some x' := px
      have : its[i]? = some x' := by simpa using px
      rw [hu] at this
      exact (Option.some.inj this).symm
    subst px
    refine ⟨_, rfl, wpAny_letOwnedTupleGo_enum (s := { s with heap := h', toks := tk + 1 }) ho fun h'' he' sb => ?_⟩
    have hT2 : h''.get? s.heap.objs.size = some { cls := .type "tuple", data := .seq #[.int i tk, x'] } := by rw [sb.2 _ (Nat.ne_of_gt hel)]; exact hT
    have new : ObjOk X.prog X.w (upd H s.heap.objs.size (.tup [.int (i : Nat), x])) h'' s.heap.objs.size (.tup [.int (i : Nat), x]) := ⟨by show 2 ≤ sizeLine; decide, [.int i tk, x'], .cons ⟨_, rfl⟩ (.cons ru .nil), ⟨_, hT2, rfl, _, rfl⟩⟩
    have I1 : Inv X pins sg (upd H s.heap.objs.size (.tup [.int (i : Nat), x])) { s with heap := h'', toks := tk + 1 } :=
      I.turnedNew (ch := [e, it]) (fun b ob hb q => by rw [sb.2 b (fun z => hb (by rw [z]; exact .head _))]; exact hk b ob (fun z => hb (by rw [z]; exact .head _)) (fun z => hb (by rw [z]; exact .tail _ (.head _))) q) hf (Nat.le_refl _) new
    have hst' : h''.IsTupleIter it a (i + 1) := by
      obtain ⟨o, h1, h2⟩ := hst.1
      exact ⟨o, by rw [sb.2 it (Ne.symm hne)]; exact h1, h2⟩
    refine ⟨.ref s.heap.objs.size, _, I1, rfl, ⟨_, x, rfl, I.hok.fresh (Nat.le_refl _), rfl, fun ys hy => by rw [I.tuple_inj hy hq]; exact hx⟩, ⟨⟨x', ?_⟩, hst', hne⟩, fun b hb => ?_⟩
    · rw [show ((i + 1 : Nat) : Int) = (i : Int) + 1 by omega]; exact he'
    · have hb' : b < s.heap.objs.size := by
        rcases List.mem_cons.mp hb with z | z
        · rw [z]; exact hel
        · rw [List.mem_singleton.mp z]; exact hil
      rw [upd_ne (Nat.ne_of_lt hb')]; exact (hf b hb).1
  done := by
    intro X hP hw hK hc i pins s sg H E I hf st hg
    subst hP hw hK
    obtain ⟨⟨old, he⟩, hit, hne⟩ := st; obtain ⟨xs, hq, hx⟩ := hg; obtain ⟨its, rv, p, hz⟩ := I.tuple hq; obtain ⟨f0, f1, f2, f3, f4, f5⟩ := hf it (.tail _ (.head _))
    have p : s.heap.IsTuple a its.toArray := p
    have nai : a ≠ it := by obtain ⟨o, ho, hc2, _⟩ := id hit; exact tup_ne p ho (by rw [hc2]; exact ne_ti)
    have hl : its.toArray[i]? = none := by have := rv.length; simp; omega
    exact enum_tup_end (I.ok.hd hc) he hit p hl fun h' eb => ⟨rfl, I.turned (t' := s.toks) (fun b o hb q => eb b o hb q) f0 f1 f3 f4 f5⟩
  self := fun A i s Q E st h => wpAny_pyIter_enum st.1.choose_spec h
def iEnumA (K : PySem.W.Frag) (ta : TA) : TI := fun sg H R => ta sg H fun vs H1 => ∃ a xs, vs = [.ref a] ∧ ((SqL K H1 a xs ∧ R (Ite K a) H1) ∨ (SqT K H1 a xs ∧ R (IteT K a) H1))
theorem pi_enumA {X : Cx} {e : Expr} {ta : TA} {p pos tpos : Pos} {elts : List Expr} {kk : Nat} (hg : Gl X "enumerate") (hm : X.mg "enumerate" = none) (ha : PA X [e] ta) (hs : starEach [e] X.env = [(false, eval e X.env)] := by rfl) :
    PI X (.Tuple elts kk tpos) (.Call (.Name "enumerate" p) [e] [] pos) (iEnumA X.K ta) := by
  refine ⟨fun pins s sg H R I h => ?_⟩
  refine Call_ (ld_blt I hg hm boot_enumerate (PyProof.Rows.callWith_type1 (thn (ha.run pos pins s sg H _ I h) fun us s1 ⟨vs, H1, I1, r1, q1⟩ => ?_) hs rfl))
  obtain ⟨a, xs, ex, q1⟩ := q1
  subst ex
  cases r1 with
  | cons r rr =>
    cases rr
    cases r
    have fresh : ∀ b, b ∈ [s1.heap.objs.size + 1, s1.heap.objs.size] → FpOk X pins H1 b := fun b hb => by
      have hle : s1.heap.objs.size ≤ b := by
        rcases List.mem_cons.mp hb with z | z
        · rw [z]; exact Nat.le_add_right _ _
        · rw [List.mem_singleton.mp z]; exact Nat.le_refl _
      exact I1.fpOk hle (I1.hok.fresh hle)
    rcases q1 with ⟨hq, q⟩ | ⟨hq, q⟩
    · obtain ⟨its, rv, p', hz⟩ := I1.list hq
      refine call_enumerate_list p'.isList fun h' he hit hsz hk => wpAny_pyIter_enum he ?_
      have I2 : Inv X pins sg H1 { s1 with heap := h' } := I1.kept (t' := s1.toks) hk
      exact ⟨s1.heap.objs.size + 1, [s1.heap.objs.size + 1, s1.heap.objs.size], _, _, H1, rfl, I2, turn_enum a (s1.heap.objs.size + 1) s1.heap.objs.size, ⟨⟨.none, he⟩, hit, Nat.succ_ne_self _⟩, fresh, q⟩
    · obtain ⟨its, rv, p', hz⟩ := I1.tuple hq
      refine call_enumT (show s1.heap.IsTuple a its.toArray from p') fun h' he hit hsz hk => wpAny_pyIter_enum he ?_
      have I2 : Inv X pins sg H1 { s1 with heap := h' } := I1.kept (t' := s1.toks) hk
      exact ⟨s1.heap.objs.size + 1, [s1.heap.objs.size + 1, s1.heap.objs.size], _, _, H1, rfl, I2, turn_enumT a (s1.heap.objs.size + 1) s1.heap.objs.size, ⟨⟨.none, he⟩, hit, Nat.succ_ne_self _⟩, fresh, q⟩
theorem walk_enumT {K : PySem.W.Frag} {a : Addr} {xs : List V} : Walk (IteT K a) xs.length (fun H => SqT K H a xs) (YPair (fun i => some (V.int (i : Nat))) fun i => xs[i]?) := by
  refine ⟨fun i _ hi q => ⟨xs, xs[i], q, by simp [hi]⟩, fun _ q => ⟨xs, q, Nat.le_refl _⟩, fun i H v H' hi q y => ?_⟩
  obtain ⟨T, x, h1, h2, h3, h4⟩ := y
  exact ⟨T, .int (i : Nat), x, h1, h2, h3, rfl, h4 xs q⟩
def enumA : List D → Option (List D)
  | [.lst xs] => some (enumD xs)
  | [.tup xs] => some (enumD xs)
  | _ => none
section
variable {X : Cx} {dl : Dr} {W : WX} {e : Expr} {pos p : Pos}
theorem di_enumA {r : SA} {elts : List Expr} {kk : Nat} {tpos : Pos} (hg : Gl X "enumerate") (hm : X.mg "enumerate" = none) (ha : DA X dl W [e] r) (hs : starEach [e] X.env = [(false, eval e X.env)] := by rfl) :
    DIs X dl W (.Tuple elts kk tpos) (.Call (.Name "enumerate" p) [e] [] pos) (gItC enumA r) := by
  refine PI.of (pi_enumA hg hm ha hs) fun sg H R q => ?_
  obtain ⟨F, q⟩ := q
  refine ⟨F, q.bnd.imp fun ds F1 H1 ⟨st1, q1⟩ vs rvs => ?_⟩
  obtain ⟨xs, s, e1, w, q2⟩ := q1.op
  unfold enumA at e1
  split at e1
  · cases e1
    obtain ⟨v, rfl, a, us, rfl, h1, h2, h3⟩ := repL1 rvs
    refine ⟨a, us, rfl, .inl ⟨SqL.of (w.sub _ _ h1), q2 F1 H1 Step.refl w _ (by rw [enumD_length, h3.length]; exact h2) ?_⟩⟩
    rw [enumD_length, h3.length]
    exact walk_enum.mono (fun H2 sm => SqL.of (sm _ _ h1)) fun i H2 x H3 _ _ y => dy_enum h3 i H2 x H3 y
  · cases e1
    obtain ⟨v, rfl, a, us, rfl, h1, h2, h3⟩ := repL1 rvs
    refine ⟨a, us, rfl, .inr ⟨Same.seqT w.sub h1, q2 F1 H1 Step.refl w _ (by rw [enumD_length, h3.length]; exact h2) ?_⟩⟩
    rw [enumD_length, h3.length]
    exact walk_enumT.mono (fun H2 sm => Same.seqT sm h1) fun i H2 x H3 _ _ y => dy_enum h3 i H2 x H3 y
  · cases e1
end
end EK


namespace EK
open PySem PySem.Spec PyProof.Rows L2
section
variable {X : Cx} {dl : Dr} {W : WX}
def rInT (K : PySem.W.Frag) (b : Bool) : R2 := fun x y H Q => ∃ d ds, Dp K H x d ∧ Dp K H y (.tuple ds) ∧ SeqAt.shaped d = true ∧ SeqAt.shaped (.tuple ds) = true ∧ Q (.bl (xor b (ds.any fun z => PyData.eqv z d))) H
theorem op_inT (hu : X.A.units + 65 < cLine) : OpR X (compareOp .In) (rInT X.K false) := by
  intro pins s σ H x y v u Q I rx ry h
  obtain ⟨d, ds, hd, he, sd, se, q⟩ := h; obtain ⟨as, r1⟩ := Dp.reads I d x v hd rx; obtain ⟨bs, r2⟩ := Dp.reads I (.tuple ds) y u he ry
  rw [Bool.false_xor] at q
  exact SeqAt.in_tuple_reads r2 r1 (SeqAt.canLay_of_shaped se) (SeqAt.canLay_of_shaped sd) (room_in_shaped sd hu) ⟨.bl _, H, I, rfl, q⟩
theorem op_notInT (hu : X.A.units + 65 < cLine) : OpR X (compareOp .NotIn) (rInT X.K true) := by
  intro pins s σ H x y v u Q I rx ry h
  obtain ⟨d, ds, hd, he, sd, se, q⟩ := h; obtain ⟨as, r1⟩ := Dp.reads I d x v hd rx; obtain ⟨bs, r2⟩ := Dp.reads I (.tuple ds) y u he ry
  rw [Bool.true_xor] at q
  exact SeqAt.notIn_tuple_reads r2 r1 (SeqAt.canLay_of_shaped se) (SeqAt.canLay_of_shaped sd) (room_in_shaped sd hu) ⟨.bl _, H, I, rfl, q⟩
def seqP : PyData → Option (Bool × List PyData)
  | .list ps => some (false, ps)
  | .tuple ps => some (true, ps)
  | _ => none
/-- x in a list or tuple of data of any depth -/
def anyB (a b : D) : Option Bool := (toP a).bind fun p => (toP b).bind fun q => (seqP q).bind fun ps => if (SeqAt.shaped p && SeqAt.shaped q) = true then some (ps.2.any fun z => PyData.eqv z p) else none
def inX (a b : D) : Option D := (anyB a b).map .bl
def ninX (a b : D) : Option D := (anyB a b).map fun k => .bl (!k)
theorem anyB_some {a b : D} {t : Bool} (e : anyB a b = some t) : ∃ p, toP a = some p ∧ SeqAt.shaped p = true ∧ ((∃ ps, toP b = some (.list ps) ∧ SeqAt.shaped (.list ps) = true ∧ t = ps.any fun z => PyData.eqv z p) ∨ ∃ ps, toP b = some (.tuple ps) ∧ SeqAt.shaped (.tuple ps) = true ∧ t = ps.any fun z => PyData.eqv z p) := by
  unfold anyB at e
  cases e1 : toP a with
  | none => rw [e1] at e; cases e
  | some p =>
    rw [e1] at e
    cases e2 : toP b with
    | none => rw [e2] at e; cases e
    | some q =>
      rw [e2] at e
      simp only [Option.bind_some] at e
      cases e3 : seqP q with
      | none => rw [e3] at e; cases e
      | some ps =>
        rw [e3] at e
        simp only [Option.bind_some] at e
        split at e
        · rename_i c
          obtain ⟨c1, c2⟩ := Bool.and_eq_true_iff.mp c
          cases e
          cases q <;> first | cases e3 | skip
          · exact ⟨p, rfl, c1, .inl ⟨_, rfl, c2, rfl⟩⟩
          · exact ⟨p, rfl, c1, .inr ⟨_, rfl, c2, rfl⟩⟩
        · cases e
theorem od_inX (hu : X.A.units + 65 < cLine) : OpR X (compareOp .In) (rD X dl inX) := by
  refine rd_of (opR_or (op_inD hu) (op_inT hu)) fun x y H Q F s a b d w ra rb e k => ?_
  unfold inX at e
  cases q : anyB a b with
  | none => rw [q] at e; cases e
  | some t =>
    rw [q] at e
    cases e
    obtain ⟨p, h1, h2, ⟨ps, h3, h4, rfl⟩ | ⟨ps, h3, h4, rfl⟩⟩ := anyB_some q
    · exact .inl ⟨p, ps, dp_of w.sub _ _ _ ra h1, dp_of w.sub _ _ _ rb h3, h2, h4, k F H _ Step.refl w rfl⟩
    · exact .inr ⟨p, ps, dp_of w.sub _ _ _ ra h1, dp_of w.sub _ _ _ rb h3, h2, h4, by rw [Bool.false_xor]; exact k F H _ Step.refl w rfl⟩
theorem od_ninX (hu : X.A.units + 65 < cLine) : OpR X (compareOp .NotIn) (rD X dl ninX) := by
  refine rd_of (opR_or (op_notInD hu) (op_notInT hu)) fun x y H Q F s a b d w ra rb e k => ?_
  unfold ninX at e
  cases q : anyB a b with
  | none => rw [q] at e; cases e
  | some t =>
    rw [q] at e
    cases e
    obtain ⟨p, h1, h2, ⟨ps, h3, h4, rfl⟩ | ⟨ps, h3, h4, rfl⟩⟩ := anyB_some q
    · exact .inl ⟨p, ps, dp_of w.sub _ _ _ ra h1, dp_of w.sub _ _ _ rb h3, h2, h4, k F H _ Step.refl w rfl⟩
    · exact .inr ⟨p, ps, dp_of w.sub _ _ _ ra h1, dp_of w.sub _ _ _ rb h3, h2, h4, by rw [Bool.true_xor]; exact k F H _ Step.refl w rfl⟩
end
end EK


namespace EK
open PySem PySem.Spec PyProof.Rows L2
def setK {α : Type} (k : L2.Key) (v : α) : List L2.Key → List α → List α
  | j :: ks, x :: xs => (if j = k then v else x) :: setK k v ks xs
  | _, xs => xs
def putKs (ks : List L2.Key) (k : L2.Key) : List L2.Key := if hasK ks k = true then ks else ks ++ [k]
def putXs {α : Type} (ks : List L2.Key) (xs : List α) (k : L2.Key) (x : α) : List α := if hasK ks k = true then setK k x ks xs else xs ++ [x]
theorem RepL.setK {K : PySem.W.Frag} {mg : Str → Option Value} {dl : Dr} {F : Hp} {k : L2.Key} {d : D} {v : V} (r : Rep K mg dl F d v) : ∀ {ks : List L2.Key} {ds : List D} {vs : List V}, RepL K mg dl F ds vs → RepL K mg dl F (EK.setK k d ks ds) (EK.setK k v ks vs)
  | [], ds, vs, h => by
    have e1 : EK.setK k d [] ds = ds := by cases ds <;> rfl
    have e2 : EK.setK k v [] vs = vs := by cases vs <;> rfl
    rw [e1, e2]; exact h
  | _ :: _, [], vs, h => by
    have h : vs = [] := h
    subst h; rfl
  | j :: ks, d' :: ds, vs, h => by
    obtain ⟨v', vs', rfl, h1, h2⟩ := h
    rw [EK.setK, EK.setK]
    refine ⟨_, _, rfl, ?_, RepL.setK r h2⟩
    by_cases z : j = k
    · rw [if_pos z, if_pos z]; exact r
    · rw [if_neg z, if_neg z]; exact h1
theorem RepL.putXs {K : PySem.W.Frag} {mg : Str → Option Value} {dl : Dr} {F : Hp} {k : L2.Key} {d : D} {v : V} (r : Rep K mg dl F d v) {ks : List L2.Key} {ds : List D} {vs : List V} (h : RepL K mg dl F ds vs) : RepL K mg dl F (EK.putXs ks ds k d) (EK.putXs ks vs k v) := by
  unfold EK.putXs
  by_cases z : hasK ks k = true
  · rw [if_pos z, if_pos z]; exact h.setK r
  · rw [if_neg z, if_neg z]; exact h.append ⟨v, [], rfl, r, rfl⟩
abbrev SX := Sls → M (OK × List D)
section
variable (X : Cx) (dl : Dr) (W : WX)
def tDX (f : SX) : TE := fun sg H Q => ∃ F, tGF X dl W F f (fun r F' H' => ∀ a, NewX X dl H r.1 r.2 F' H' a → Q (.ref a) H') sg H
abbrev DEX (e : Expr) (f : SX) : Prop := PE X e (tDX X dl W f)
end
section
variable {X : Cx} {dl : Dr} {W : WX} {pos p : Pos} {e : Expr} {es : List Expr} {f : SE} {ra : SA} {F0 H0 F H : Hp} {E : Ends}
def gX0 : SX := fun _ => ret (.k [], [])
def asX : D → Option (OK × List D)
  | .dct ks xs => some (.k ks, xs)
  | _ => none
/-- dict(d), dict(pairs): a dict of one's own -/
def dictXD (ds : List D) : Option D := match copyD ds with
  | some d => some d
  | none => dictPD ds
def gXC (ra : SA) : SX := fun G => bnd (ra G) fun ds => ofO ((dictXD ds).bind asX)
def sOwnX (i : Nat) (f : SX) : SS := fun G => bnd (f G) fun r => ret (.next (G.set i (some (.ownX r.1 r.2))))
def slX (f : SX) : Sls → M Sl := fun G => bnd (f G) fun r => ret (.ownX r.1 r.2)
def xAt (G : Sls) (i : Nat) : Option (List Key × List D) := match G[i]? with
  | some (some (.ownX (.k ks) ds)) => some (ks, ds)
  | _ => none
def sSetX (i : Nat) (fk fv : SE) : SS := fun G => bnd (fv G) fun d => bnd (ofO (xAt G i)) fun r => bnd (fk G) fun k => bnd (ofO (keyOf k)) fun j => if r.1.length < 1000 then ret (.next (G.set i (some (.ownX (.k (putKs r.1 j)) (putXs r.1 r.2 j d))))) else fail
def frzX (i : Nat) (G : Sls) : Sls := match G[i]? with
  | some (some (.ownX k ds)) => G.set i (some (.fz (k.data ds)))
  | _ => G
theorem OK.rep {k : OK} {ds : List D} {vs : List V} {a : Addr} {od : Obj} {F1 : Hp} (h1 : F1 a = some (.frz od (k.ho vs))) (h2 : k.len = vs.length) (h3 : k.len ≤ 1000 ∧ k.nd) (h4 : RepL X.K X.mg dl F1 ds vs) : Rep X.K X.mg dl F1 (k.data ds) (.ref a) := by
  cases k with
  | k ks => exact ⟨a, od, vs, rfl, h1, h2, h3, h4⟩
  | t ks => exact ⟨a, od, vs, rfl, h1, h2, h3, h4⟩
  | u n => exact h3.2.elim
theorem Sim.frzX {sg : L2.St} {G : Sls} {i : Nat} {a : Addr} {k : OK} {ds : List D} {vs : List V} {od : Obj} (S : Sim X.K X.mg dl F0 H0 F H sg G) (ei : G[i]? = some (some (.ownX k ds))) (es : sg[i]? = some (some (.ref a)))
    (m2 : H a = some (k.ho vs)) (m3 : F a = none) (m4 : H0 a = none) (m6 : k.len = vs.length) (m7 : k.len ≤ 1000 ∧ k.nd) (m8 : RepL X.K X.mg dl F ds vs) :
    Sim X.K X.mg dl F0 H0 (upd F a (.frz od (k.ho vs))) (upd H a (.frz od (k.ho vs))) sg (G.set i (some (.fz (k.data ds)))) := by
  have hil := get_lt ei
  have sm : Same F (upd F a (.frz od (k.ho vs))) := Same.updN m3
  refine ⟨by rw [List.length_set]; exact S.len, fun j t ej => ?_, fun j m t u ej ek o1 o2 e3 => ?_, ⟨fun b o e => sm b o (S.st.fs b o e), fun c o nc e => ?_, fun b o e => ?_, fun c e => ?_⟩, S.tr.at ei rfl (fun _ z => by cases z) es sm (fun b hb => upd_ne hb) (fun b hb => upd_ne hb)⟩
  · by_cases hij : i = j
    · subst hij
      rw [List.getElem?_set_self hil] at ej
      cases ej
      exact ⟨.ref a, es, OK.rep upd_same m6 m7 (RepL.mono sm _ _ m8)⟩
    · rw [List.getElem?_set_ne hij] at ej
      obtain ⟨u, k1, k2⟩ := S.sl j t ej
      refine ⟨u, k1, ?_⟩
      have nea : ∀ c, t.isOwn = true → u = .ref c → c ≠ a := fun c ho eu z => by
        subst z; subst eu
        exact hij (S.dis i j _ t ei ej rfl ho (es.trans k1.symm))
      cases t with
      | fz d => exact Rep.mono sm d u k2
      | own es' =>
        obtain ⟨c, ws, rfl, q2, q3, q4, q5, q6, q7⟩ := k2
        exact ⟨c, ws, rfl, by rw [upd_ne (nea c rfl rfl)]; exact q2, by rw [upd_ne (nea c rfl rfl)]; exact q3, q4, q5, q6, RepL.mono sm _ _ q7⟩
      | ini cc ns es' =>
        obtain ⟨c, dx, C, ws, rfl, q2, q3, q4, q5, q6, q7, q8, q9, q10, q11, q12, q13⟩ := k2
        have nd : dx ≠ a := fun z => by rw [z, m2] at q4; cases k <;> cases q4
        refine ⟨c, dx, C, ws, rfl, q2, by rw [upd_ne (nea c rfl rfl)]; exact q3, by rw [upd_ne nd]; exact q4, by rw [upd_ne (nea c rfl rfl)]; exact q5, by rw [upd_ne nd]; exact q6, q7, q8, q9, q10, q11, q12, RepL.mono sm _ _ q13⟩
      | ownX kk es' =>
        obtain ⟨c, ws, rfl, q2, q3, q4, q5, q6, q7, q8⟩ := k2
        exact ⟨c, ws, rfl, by rw [upd_ne (nea c rfl rfl)]; exact q2, by rw [upd_ne (nea c rfl rfl)]; exact q3, q4, q5, q6, q7, RepL.mono sm _ _ q8⟩
      | tree _ => trivial
  · have nz : ∀ m (t : Sl), (G.set i (some (.fz (k.data ds))))[m]? = some (some t) → t.isOwn = true → i ≠ m := fun m t e o z => by
      subst z
      rw [List.getElem?_set_self hil] at e; cases e; cases o
    have z1 := nz j t ej o1
    have z2 := nz m u ek o2
    rw [List.getElem?_set_ne z1] at ej
    rw [List.getElem?_set_ne z2] at ek
    exact S.dis j m t u ej ek o1 o2 e3
  · rw [upd_ne (ne_of_none e m4)]; exact S.st.hs c o nc e
  · by_cases z : b = a
    · subst z; exact .inr m4
    · rw [upd_ne z] at e; exact S.st.nw b o e
  · by_cases z : c = a
    · subst z; exact m4
    · rw [upd_ne z] at e; exact S.st.al c e
def sFrzX (i : Nat) (f : SS) : SS := fun G => f (frzX i G)
end
end EK


namespace EK
open PySem PySem.Spec PyProof.Rows L2
def flatP : D → Option PyData
  | .non => some .none
  | .bl b => some (.bool b)
  | .int i => some (.int i)
  | .str x => some (.str x)
  | _ => none
def keyP : Key → PyData
  | .inl i => .int i
  | .inr x => .str x
def showX (p : PyData) : Option D := if p.showable = true ∧ p.shown.length ≤ sizeLine ∧ p.depth ≤ 60 then some (.str p.shown) else none
def dctP (ks : List Key) (xs : List D) : Option PyData := (xs.mapM flatP).map fun ps => .dict ((ks.map keyP).zip ps)
def reprX : List D → Option D
  | [.dct ks xs] => (dctP ks xs).bind showX
  | ds => reprD ds
section
variable {K : PySem.W.Frag} {mg : Str → Option Value} {dl : Dr} {F H : Hp}
end
section
variable {X : Cx} {dl : Dr} {W : WX} {pos p apos cpos : Pos} {e : Expr} {f : SE}
def rItemsZ : V → Hp → VK → Prop := fun x H Q => ∃ (d : Addr) (o : Obj) (kvs : List (Key × V)), x = .ref d ∧ H d = some (.frz o (.dK kvs)) ∧
  ∀ (p : Addr) (ts : List Addr), H p = none → (∀ t ∈ ts, H t = none) → p ∉ ts → ts.Nodup → ts.length = kvs.length → Q (.ref p) (LiI.putT (upd H p (.lst (ts.map V.ref))) ts kvs)
def tItemsZ (te : TE) : TE := fun σ H Q => te σ H fun x H1 => rItemsZ x H1 Q
def gItemsO (f : SE) : SA := fun G => bnd (f G) fun d => ofO (itemsDD d)
end
end EK
namespace EK
open PySem PySem.Spec PyProof.Rows L2
section
variable {X : Cx} {dl : Dr}
/-- list(d) of a dict, of a list, of a tuple, of a text -/
def listX : List D → Option D
  | [.dct ks _] => some (.lst (ks.map keyD))
  | [.str x] => if x.cps.size ≤ 1000000 then some (.lst (chars x)) else none
  | ds => listD ds
end
end EK


namespace EK
open PySem PySem.Spec PyProof.Rows L2 HT
section
variable {prog : Program} {w : World} {A : Around} {E : Value → Shared → Prop} {s : Shared}
end
section
variable {X : Cx} {dl : Dr} {W : WX} {e : Expr} {te : TE} {fa : SE}
def tRevX (K : PySem.W.Frag) (te : TE) : TE := fun σ H Q => te σ H fun x H1 => (∃ a xs, x = .ref a ∧ SqT K H1 a xs ∧ ∀ p, H1 p = none → Q (.ref p) (upd H1 p (.tup xs.reverse))) ∨ (∃ a xs, x = .ref a ∧ SqL K H1 a xs ∧ ∀ p, H1 p = none → Q (.ref p) (upd H1 p (.lst xs.reverse)))
/-- d[::-1] of a list or a tuple -/
def revX : D → Option D
  | .tup xs => some (.tup xs.reverse)
  | .lst xs => some (.lst xs.reverse)
  | _ => none
end
end EK


namespace EK
open PySem PySem.Spec PyProof.Rows L2 LamX
theorem Un.drop {fs ex : List Addr} {H H' : Hp} {h h' : Heap} {w : Addr} (u : Un (w :: fs) ex H H' h h') (hw : h.get? w = none) : Un fs ex H H' h h' where
  keep := fun b o q n hb hx => u.keep b o q n (fun z => by
    rcases List.mem_cons.mp z with e | e
    · rw [e, hw] at q; cases q
    · exact hb e) hx
  slot := fun b o q n hb hx => u.slot b o q n (List.mem_cons_of_mem _ hb) hx
  free := u.free
  there := u.there
  tups := u.tups
  frzs := u.frzs
  tbls := u.tbls
section
variable {X : Cx} {pins : List (Addr × Obj)} {σ : L2.St} {H : Hp} {s : Shared}
/-- x(), in the def that got the lambda from the def that got it -/
theorem pe_act2 {CXw CXg : CXT} {Ew Eg : XK} {Nw Ng : List Str} {qw qg : Str} {sw sg : Scope} {gw g f c' : Addr} {cdw cdg pm ctv : Value} {params : Arguments} {body : Expr} {scope : Scope} {k i : Nat} {a : Str} {pn : List (Addr × Obj)} {xe : Value → Shared → Prop} {W : WX} {E : XK} {tb : TE} {p1 p2 : Pos}
    {pinsW : List (Addr × Obj)} {σW : L2.St} {HW : Hp} {sW : Shared}
    (I : Inv X pins σ H s) (L : LamS X.env.scope scope) (hf : s.heap.get? f = some (PySem.W.kla_obj "<lambda>" (X.env.qual ++ "<lambda>") params body scope (cloFrom X.env.cells scope.names []) pm c' ctv)) (hfn : H f = none) (hfr : f ∉ frs X.stack)
    (hbind : bindArgs (PySem.W.kla_fn "<lambda>" (X.env.qual ++ "<lambda>") params body scope (cloFrom X.env.cells scope.names []) pm (.ref c') ctv) ⟨[], []⟩ = pure [])
    (IW : Inv (cxOf CXw X.prog X.w X.K X.mg X.base Nw qw sw gw cdw X.A X.stack s H Ew) pinsW σW HW sW)
    (tk : Takes ((cxOf CXg X.prog X.w X.K X.mg X.base Ng qg sg g cdg (cxOf CXw X.prog X.w X.K X.mg X.base Nw qw sw gw cdw X.A X.stack s H Ew).A (cxOf CXw X.prog X.w X.K X.mg X.base Nw qw sw gw cdw X.A X.stack s H Ew).stack sW HW Eg).tr pn xe) W) (hW : ∀ cls d σ' H', E cls d H' → W cls d σ' H')
    (hr : Room (k + 1) ((cxOf CXw X.prog X.w X.K X.mg X.base Nw qw sw gw cdw X.A X.stack s H Ew).A.deeper (envOfC qg sg sW.heap.objs.size g cdg)))
    (hbody : ∀ (A : Around) (outer : List Env) (s : Shared) (H : Hp), Room k (A.deeper (lamEnv X scope s.heap.objs.size f c')) → PE (lamCx X A outer s H E scope f c') body tb)
    (hN : Ng[i]? = some a) (hv : Vis sg a) (hd : (a == ("__debug__" : Str)) = false := by decide) (hcd : (a == ("__classdict__" : Str)) = false := by decide) :
    PE ((cxOf CXg X.prog X.w X.K X.mg X.base Ng qg sg g cdg (cxOf CXw X.prog X.w X.K X.mg X.base Nw qw sw gw cdw X.A X.stack s H Ew).A (cxOf CXw X.prog X.w X.K X.mg X.base Nw qw sw gw cdw X.A X.stack s H Ew).stack sW HW Eg).tr pn xe) (.Call (.Name a p1) [] [] p2)
      (fun σZ HZ Q => σZ[i]? = some (some (.ref f)) ∧ HZ c' = some (CodeO c' (X.env.qual ++ "<lambda>")) ∧ tb σ HZ Q) := by
  refine ⟨fun pinsZ sZ σZ HZ Q IZ h => ?_⟩
  obtain ⟨hs, hc, ht⟩ := h
  refine wpAny_Call_Name_kw (thn ((pe_var (pos := p1) (i := i) hN hv hd hcd).run pinsZ sZ σZ HZ (fun v H1 => v = .ref f ∧ H1 = HZ) IZ ⟨.ref f, hs, rfl, rfl⟩) fun u s1 ⟨v, H1, I1, r1, q1⟩ => ?_)
  obtain ⟨ev, eH⟩ := q1
  subst ev
  rw [eH] at I1
  obtain rfl : u = Value.ref f := r1
  have unW : Un (frs X.stack) [] H HW s.heap sW.heap := IW.base
  have fW := unW.keep f _ hf hfn hfr (fun z => nomatch (show f ∈ ([] : List Addr) from z))
  have fWn := unW.free f _ hf hfn (fun z => nomatch (show f ∈ ([] : List Addr) from z))
  have hst : frs (cxOf CXw X.prog X.w X.K X.mg X.base Nw qw sw gw cdw X.A X.stack s H Ew).stack = s.heap.objs.size :: frs X.stack := rfl
  have fWr : f ∉ frs (cxOf CXw X.prog X.w X.K X.mg X.base Nw qw sw gw cdw X.A X.stack s H Ew).stack := fun z => by
    rw [hst] at z
    rcases List.mem_cons.mp z with e | e
    · exact absurd (Heap.lt_size hf) (by rw [e]; exact Nat.lt_irrefl _)
    · exact hfr e
  have unZ : Un (s.heap.objs.size :: frs X.stack) [] HW HZ sW.heap s1.heap := I1.base
  have of1 := unZ.keep f _ fW fWn (by rw [hst] at fWr; exact fWr) (fun z => nomatch (show f ∈ ([] : List Addr) from z))
  refine PySem.W.callWith_F0 ⟨_, _, _, _, of1⟩ ?_
  have un : Un (frs X.stack) [] H HZ s.heap s1.heap := Un.drop ((unW.mono (fun b hb => List.mem_cons_of_mem _ hb) fun b hb => hb).trans unZ) (by
    cases e : s.heap.get? s.heap.objs.size with
    | none => rfl
    | some o => exact absurd (Heap.lt_size e) (Nat.lt_irrefl _))
  obtain ⟨⟨oc, vs, t, hoc, hdc, hvc⟩, _, _⟩ := I1.hok c' _ hc
  have rc : codeAny (model X.prog X.w) ((cxOf CXw X.prog X.w X.K X.mg X.base Nw qw sw gw cdw X.A X.stack s H Ew).A.deeper (envOfC qg sg sW.heap.objs.size g cdg)) (.call (.ref f) ⟨[], []⟩) (CR (L2.CX X.prog X.w) (envOfC qg sg sW.heap.objs.size g cdg :: (cxOf CXw X.prog X.w X.K X.mg X.base Nw qw sw gw cdw X.A X.stack s H Ew).stack) X.prog X.w HZ s1 Q E) s1 := by
    refine PySem.W.kla_callFunE hr.depth of1 rfl L.co L.gen rfl ⟨c', oc, vs, t, rfl, hoc, hdc, hvc⟩ ?_
    rw [hbind]
    refine wpAny_pure (wpAny_newFunctionEnv (fun y hy => (L.own y hy).2) (fun y hy => absurd hy (by simp)) (fun h₁ hns hsb => ⟨I1.nolimit.fresh _ hsb, ?_⟩) L.kind)
    show codeAny _ _ (.expr body (lamEnv X scope s1.heap.objs.size f c')) _ _
    have kp : ∀ b o, s1.heap.get? b = some o → h₁.get? b = some o := fun b o e => hsb.extBut b o (Nat.ne_of_lt (Heap.lt_size e)) (Heap.get?_push_of_some _ e)
    have J : Inv (lamCx X ((cxOf CXw X.prog X.w X.K X.mg X.base Nw qw sw gw cdw X.A X.stack s H Ew).A.deeper (envOfC qg sg sW.heap.objs.size g cdg)) (envOfC qg sg sW.heap.objs.size g cdg :: (cxOf CXw X.prog X.w X.K X.mg X.base Nw qw sw gw cdw X.A X.stack s H Ew).stack) s1 HZ E scope f c') [] σ HZ { s1 with heap := h₁, toks := s1.toks + ([] : List (Str × Value)).length } :=
      lam_start2 I L I1.env0 hr.hd un hns kp
    refine PySem.W.kla_codeExpr (wpAny_mono ((hbody _ _ s1 HZ (hr.deeper _)).run [] _ _ HZ Q J ht) (fun v s' hq => ?_) fun e s' hq => hq)
    obtain ⟨w', H', J', rv, q⟩ := hq
    exact ⟨w', H', J'.os, J'.bare, J'.base, J'.hok, rv, q⟩
  have hx : Passes (L2.CX X.prog X.w) ((cxOf CXg X.prog X.w X.K X.mg X.base Ng qg sg g cdg (cxOf CXw X.prog X.w X.K X.mg X.base Nw qw sw gw cdw X.A X.stack s H Ew).A (cxOf CXw X.prog X.w X.K X.mg X.base Nw qw sw gw cdw X.A X.stack s H Ew).stack sW HW Eg).tr pn xe) E := passes_call tk hW
  refine wpAny_call (codeAny_mono rc fun r s' hq => ?_)
  cases r with
  | error e => exact hx pinsZ σZ HZ s1 e s' I1 hq
  | ok fl =>
    cases fl with
    | ret u => exact I1.after hq
    | next => exact False.elim hq
    | brk => exact False.elim hq
    | cont => exact False.elim hq
/-- x(), seen in the def that got the lambda: x goes to the def that calls it -/
theorem pe_caughtvar {Nw Ng : List Str} {xw y a b : Str} {sw sg : Scope} {gw g f c' : Addr} {cdw dV kV doc pm' cdv ct ocd pm ctv : Value} {an od : Option Addr} {osl : Array (Option Value)} {pg : Arguments} {bg : List Stmt} {params : Arguments} {body : Expr} {scope : Scope} {k : Nat} {tka : XK → TE} {TT : (XK → Hp → VK → Prop) → Hp → VK → Prop} {p p2 posL : Pos}
    (I : Inv X pins σ H s) (L : LamS X.env.scope scope) (hf : s.heap.get? f = some (PySem.W.kla_obj "<lambda>" (X.env.qual ++ "<lambda>") params body scope (cloFrom X.env.cells scope.names []) pm c' ctv)) (hfn : H f = none) (hfr : f ∉ frs X.stack)
    (hbind : bindArgs (PySem.W.kla_fn "<lambda>" (X.env.qual ++ "<lambda>") params body scope (cloFrom X.env.cells scope.names []) pm (.ref c') ctv) ⟨[], []⟩ = pure [])
    (hgl : Gl (cxOf C8.CX0 X.prog X.w X.K X.mg X.base Nw xw sw gw cdw X.A X.stack s H C8.E0) y) (hmm : X.mg y = some (.ref g)) (hk : PySem.W.keepIn X.K (.ref g) = true)
    (lk : X.K.lookup g = some ⟨ocd, od, .func (PySem.W.fnOf y y pg bg sg dV kV doc pm' an cdv ct), osl⟩) (hcg : PySem.W.codeIn X.K cdv y = true) (hb : L2.Binds X.K (PySem.W.fnOf y y pg bg sg dV kV doc pm' an cdv ct) [a] []) (Sg : FnScope Ng [a] sg) (hNg : Ng[0]? = some a) (hva : Vis sg a)
    (hG : GivesTo (cxOf C8.CX0 X.prog X.w X.K X.mg X.base Nw xw sw gw cdw X.A X.stack s H C8.E0) Ng y sg g cdv bg a (X.env.qual ++ "<lambda>") TT)
    (hNw : Nw[0]? = some b) (hvb : Vis sw b) (hrm : Room (k + 2) (cxOf C8.CX0 X.prog X.w X.K X.mg X.base Nw xw sw gw cdw X.A X.stack s H C8.E0).A)
    (hbdy : ∀ (A : Around) (outer : List Env) (st : Shared) (H : Hp) (Ev : XK), Room k (A.deeper (lamEnv X scope st.heap.objs.size f c')) → PE (lamCx X A outer st H Ev scope f c') body (tka Ev))
    (hdb : (y == ("__debug__" : Str)) = false := by decide) (hda : (a == ("__debug__" : Str)) = false := by decide) (hca : (a == ("__classdict__" : Str)) = false := by decide) (hdw : (b == ("__debug__" : Str)) = false := by decide) (hcw : (b == ("__classdict__" : Str)) = false := by decide) :
    PE (cxOf C8.CX0 X.prog X.w X.K X.mg X.base Nw xw sw gw cdw X.A X.stack s H C8.E0).nox (.Call (.Name y p) [.Name b p2] [] posL)
      (fun σW HW Q => σW[0]? = some (some (.ref f)) ∧ HW c' = some (CodeO c' (X.env.qual ++ "<lambda>")) ∧ TT (fun Ev H' Q' => tka Ev σ H' Q') HW Q) := by
  refine ⟨fun pinsW sW σW HW Q IW h => ?_⟩
  obtain ⟨h0, hco, ht⟩ := h
  refine wpAny_Call_Name_kw (ld_glob IW hgl hmm ?_ hdb)
  refine PySem.W.callWith_K (h₀ := X.base) IW.ok.mod.kin hk ?_ (by rfl) (by rfl)
  show wpAny _ _ (spliced ((false, eval (.Name b p2) _) :: backTo posL (starEach [] _))) _ _ sW
  refine Calls.spliced_cons (thn ((pe_var (pos := p2) (i := 0) hNw hvb hdw hcw).run pinsW sW σW HW (fun v H1 => v = .ref f ∧ H1 = HW) IW ⟨.ref f, h0, rfl, rfl⟩) fun u s1 ⟨v, H1, I1, r1, q1⟩ => ?_)
  obtain ⟨ev, eH⟩ := q1
  subst ev
  rw [eH] at I1
  obtain rfl : u = Value.ref f := r1
  refine Calls.spliced_nil ⟨I1.kIn, ?_⟩
  have rcd : codeAny (model X.prog X.w) (cxOf C8.CX0 X.prog X.w X.K X.mg X.base Nw xw sw gw cdw X.A X.stack s H C8.E0).A (.call (.ref g) ⟨[.ref f], []⟩) (CR C8.CX0 (cxOf C8.CX0 X.prog X.w X.K X.mg X.base Nw xw sw gw cdw X.A X.stack s H C8.E0).stack X.prog X.w HW s1 Q C8.E0) s1 := by
    refine run_ofS (N := Ng) (ps := [a]) (us := [.ref f]) (vs := [.ref f]) lk hcg Sg hrm I1.env0 (hb s1 [.ref f] I1.kIn rfl) (.cons rfl .nil) rfl fun hr' => ?_
    obtain ⟨t', ht', hq'⟩ := hG f c' s1 HW Q (fun Ev H' Q' => tka Ev σ H' Q') (fun W pn xe Ev p1 p2 tk hW => pe_act2 (i := 0) I L hf hfn hfr hbind I1.unwish tk hW hr' (fun A outer st H hr2 => hbdy A outer st H Ev hr2) hNg hva hda hca) hco ht
    exact ⟨t', ht'.nox, hq'⟩
  refine wpAny_call (codeAny_mono rcd fun r s2 hq => ?_)
  cases r with
  | error e => exact (show False from hq).elim
  | ok fl =>
    cases fl with
    | ret u => exact I1.after hq
    | next => exact False.elim hq
    | brk => exact False.elim hq
    | cont => exact False.elim hq
end
section
variable {X : Cx}
def tLamF (T : List (Addr × Str)) (TT : Addr → (XK → Hp → VK → Prop) → Hp → VK → Prop) (t : XK → TE) : TE := fun σ H Q => Tabs T H ∧ ∀ H1, ExtM H H1 → Tabs T H1 → ∀ f : Addr, TT f (fun E H' Q' => t E σ H' Q') H1 Q
/-- x(lambda: body), where x hands it on: hBody tells x's body -/
theorem pe_wordcall {T : List (Addr × Str)} {TT : (XK → Hp → VK → Prop) → Hp → VK → Prop} {TTw : Addr → (XK → Hp → VK → Prop) → Hp → VK → Prop} {x y a b : Str} {gw g c P : Addr} {k : Nat} {pw pg : Arguments} {bw bg : List Stmt} {sw sg : Scope} {dV kV doc pm cdv ct ocd dVw kVw docw pmw cdw ctw ocw : Value} {an od anw odw : Option Addr} {osl oslw : Array (Option Value)} {Nw Ng : List Str}
    {params : Arguments} {body : Expr} {scope : Scope} {tka : XK → TE} {p lpos posL : Pos} (hgl : Gl X x) (hmm : X.mg x = some (.ref gw)) (hkp : PySem.W.keepIn X.K (.ref gw) = true)
    (lkw : X.K.lookup gw = some ⟨ocw, odw, .func (PySem.W.fnOf x x pw bw sw dVw kVw docw pmw anw cdw ctw), oslw⟩) (hcw : PySem.W.codeIn X.K cdw x = true) (hbW : L2.Binds X.K (PySem.W.fnOf x x pw bw sw dVw kVw docw pmw anw cdw ctw) [b] []) (Sw : FnScope Nw [b] sw) (hNw : Nw[0]? = some b) (hvb : Vis sw b)
    (hgy : sw.names.lookup y = some .globalImplicit) (hmy : X.mg y = some (.ref g)) (hky : PySem.W.keepIn X.K (.ref g) = true)
    (lkg : X.K.lookup g = some ⟨ocd, od, .func (PySem.W.fnOf y y pg bg sg dV kV doc pm an cdv ct), osl⟩) (hcgd : PySem.W.codeIn X.K cdv y = true) (hbP : L2.Binds X.K (PySem.W.fnOf y y pg bg sg dV kV doc pm an cdv ct) [a] []) (Sgc : FnScope Ng [a] sg) (hNgd : Ng[0]? = some a) (hvar : Vis sg a)
    (hGiv : ∀ (s : Shared) (H : Hp), GivesTo (cxOf C8.CX0 X.prog X.w X.K X.mg X.base Nw x sw gw cdw X.A X.stack s H C8.E0) Ng y sg g cdv bg a (X.env.qual ++ "<lambda>") TT)
    (hBody : ∀ (f c' : Addr) (s : Shared) (H : Hp) (Q : VK) (tl : XK → Hp → VK → Prop), (∀ p1 p2 p3 : Pos, PE (cxOf C8.CX0 X.prog X.w X.K X.mg X.base Nw x sw gw cdw X.A X.stack s H C8.E0).nox (.Call (.Name y p1) [.Name b p2] [] p3) (fun σW HW Q => σW[0]? = some (some (.ref f)) ∧ HW c' = some (CodeO c' (X.env.qual ++ "<lambda>")) ∧ TT tl HW Q)) →
      Room (k + 2) (cxOf C8.CX0 X.prog X.w X.K X.mg X.base Nw x sw gw cdw X.A X.stack s H C8.E0).A → H c' = some (CodeO c' (X.env.qual ++ "<lambda>")) → TTw f tl H Q → ∃ t, PSs (cxOf C8.CX0 X.prog X.w X.K X.mg X.base Nw x sw gw cdw X.A X.stack s H C8.E0).nox bw t ∧ t { nx := fun _ H' => Q .non H', rt := Q } (L2.start Nw [.ref f]) H)
    (tbb : TabB X.base X.mg c P) (hcde : X.env.code = .ref c) (hmTb : (P, X.env.qual ++ "<lambda>") ∈ T) (huq : ∀ p ∈ T, p.1 = P → p.2 = X.env.qual ++ "<lambda>") (hrm : Room (k + 3) X.A) (Lm : LamS X.env.scope scope) (hdf : defaultsOf params X.env = ([], []))
    (hbnd : ∀ (q : Str) (cl : List (Str × Addr)) (pm cv ctv2 : Value), bindArgs (PySem.W.kla_fn "<lambda>" q params body scope cl pm cv ctv2) ⟨[], []⟩ = pure [])
    (hbdy : ∀ (A : Around) (outer : List Env) (st : Shared) (H : Hp) (Ev : XK) (f c' : Addr), Room k (A.deeper (lamEnv X scope st.heap.objs.size f c')) → PE (lamCx X A outer st H Ev scope f c') body (tka Ev))
    (hdb : (x == ("__debug__" : Str)) = false := by decide) (hdy : (y == ("__debug__" : Str)) = false := by decide) (hdd : (a == ("__debug__" : Str)) = false := by decide) (hcd : (a == ("__classdict__" : Str)) = false := by decide) (hdw : (b == ("__debug__" : Str)) = false := by decide) (hcdw : (b == ("__classdict__" : Str)) = false := by decide) :
    PE X (.Call (.Name x p) [.Lambda params body scope lpos] [] posL) (tLamF T TTw tka) := by
  refine ⟨fun pins st σ H Qv I hh => ?_⟩
  obtain ⟨hTT, hh⟩ := hh
  refine wpAny_Call_Name_kw (ld_glob I hgl hmm ?_ hdb)
  refine PySem.W.callWith_K (h₀ := X.base) I.ok.mod.kin hkp ?_ (by rfl) (by rfl)
  show wpAny _ _ (spliced ((false, eval (.Lambda params body scope lpos) X.env) :: backTo posL (starEach [] X.env))) _ _ st
  refine Calls.spliced_cons (lam_makeM I tbb hcde hmTb huq hTT hdf (Lm.has I.ok) fun f c' pm' ctv2 H1 st' J1 eNx tT1 fge hfnn hfrr hcoA => ?_)
  refine Calls.spliced_nil ⟨J1.kIn, ?_⟩
  have rcd : codeAny (model X.prog X.w) X.A (.call (.ref gw) ⟨[.ref f], []⟩) (CR C8.CX0 X.stack X.prog X.w H1 st' Qv C8.E0) st' := by
    refine run_ofS (N := Nw) (ps := [b]) (us := [.ref f]) (vs := [.ref f]) lkw hcw Sw hrm J1.env0 (hbW st' [.ref f] J1.kIn rfl) (.cons rfl .nil) rfl fun hr' => ?_
    obtain ⟨t', ht', hq'⟩ := hBody f c' st' H1 Qv (fun Ev H' Q' => tka Ev σ H' Q') (fun p1 p2 p3 => pe_caughtvar (k := k) J1 Lm fge hfnn hfrr (hbnd _ _ _ _ _) hgy hmy hky lkg hcgd hbP Sgc hNgd hvar (hGiv st' H1) hNw hvb hr' (fun A outer st H Ev hr2 => hbdy A outer st H Ev f c' hr2) hdy hdd hcd hdw hcdw) hr' hcoA (hh H1 eNx tT1 f)
    exact ⟨t', ht'.nox, hq'⟩
  refine wpAny_call (codeAny_mono rcd fun r s2 hq => ?_)
  cases r with
  | error e => exact (show False from hq).elim
  | ok fl =>
    cases fl with
    | ret u => exact J1.after hq
    | next => exact False.elim hq
    | brk => exact False.elim hq
    | cont => exact False.elim hq
end
/-- the rest of a def that got the error: slot 0 is the job, slot 1 the error -/
def wordM (N : Nat) (br : SS) (d : D) : M D := bnd (br (none :: some (.fz d) :: List.replicate (N - 2) none)) fun o => match o with
  | .next _ => ret .non
  | .ret d => ret d
  | _ => fail
def gWord (kx : List Str) (f : SE) (N : Nat) (br : SS) : SE := fun G => bnd (gCaught kx f G) fun d => noErr (wordM N br d)
section
variable {X : Cx} {dl : Dr} {W : WX}
theorem sim_word {K : PySem.W.Frag} {mg : Str → Option Value} {F H : Hp} {b er : Str} {r : List Str} {fa : Addr} {d : D} {v : V} (h : Rep K mg dl F d v) : Sim K mg dl F H F H ((L2.start (b :: er :: r) [.ref fa]).set 1 (some v)) (none :: some (.fz d) :: List.replicate r.length none) := by
  have e0 : (L2.start (b :: er :: r) [.ref fa]).set 1 (some v) = some (.ref fa) :: some v :: List.replicate r.length none := by
    simp [L2.start, List.replicate_succ]
  rw [e0]
  have key : ∀ (i : Nat) (s : Sl), (none :: some (.fz d) :: List.replicate r.length none : Sls)[i]? = some (some s) → i = 1 ∧ s = .fz d := fun i s e => by
    match i with
    | 0 => cases e
    | 1 => cases e; exact ⟨rfl, rfl⟩
    | i + 2 =>
      rw [List.getElem?_cons_succ, List.getElem?_cons_succ, List.getElem?_replicate] at e
      split at e <;> cases e
  refine ⟨by simp, fun i s e => ?_, fun i j s t e1 e2 _ _ _ => ?_, Step.refl, Trs.no fun i t e => by
    obtain ⟨_, z⟩ := key i _ e
    cases z⟩
  · obtain ⟨rfl, rfl⟩ := key i s e
    exact ⟨v, rfl, h⟩
  · rw [(key i s e1).1, (key j t e2).1]
def TWord (X : Cx) (dl : Dr) (CS : Addr) (Nw : List Str) (br : SS) : Addr → (XK → Hp → VK → Prop) → Hp → VK → Prop := fun fa tl H Q =>
  TCaught X.K CS tl H fun v H1 => tS X dl (fun _ _ _ _ => False) br { nx := fun _ H' => Q .non H', rt := Q } ((L2.start Nw [.ref fa]).set 1 (some v)) H1
theorem wordM_go {F0 H0 F1 H1 : Hp} {b er : Str} {r : List Str} {br : SS} {d : D} {v : V} {s1 : DS} {Q : VK} {W' : XK'} (st : Step dl F0 H0 F1 H1) (w : Wd dl F1 H1 s1) (rv : Rep X.K X.mg dl F1 d v)
    (g : Go X.mg X.K dl W' F1 H1 (noErr (wordM (r.length + 2) br d) s1) fun a _ F' H' => ∀ u, Rep X.K X.mg dl F' a u → Q u H') (fa : Addr) :
    tS X dl (fun _ _ _ _ => False) br { nx := fun _ H' => Q .non H', rt := Q } ((L2.start (b :: er :: r) [.ref fa]).set 1 (some v)) H1 := by
  refine ⟨F1, H1, F1, none :: some (.fz d) :: List.replicate r.length none, s1, w, sim_word rv, ?_⟩
  unfold noErr wordM bnd at g
  rw [show r.length + 2 - 2 = r.length from rfl] at g
  cases e : br (none :: some (.fz d) :: List.replicate r.length none) s1 with
  | none => rw [e] at g; exact g
  | some p =>
    obtain ⟨o, s3⟩ := p
    rw [e] at g
    cases o with
    | err y => exact (show False from g).elim
    | ok o =>
      cases o with
      | next G => exact fun F' H' sg' _ w' S => g F' H' S.st w' .non rfl
      | brk G => exact (show False from g).elim
      | cont G => exact (show False from g).elim
      | ret z => exact fun F' H' u st' w' ru => g F' H' st' w' u ru
theorem de_wordF {kx : List Str} {x y a ke b er : Str} {Nr : List Str} {cc PT : Addr} {k : Nat} {params : Arguments} {body : Expr} {scope : Scope} {f : SE} {p lpos pos : Pos} {stw : Stmt} {fdw : FuncData} {br : SS}
    (T : CaughtF X.K X.mg y a ke) (FW : FunD X.K x x (defArgs stw) (defBody stw) (defScope stw) [] [] (He.ga X.K x) fdw) (gw : X.mg x = some (.ref (He.ga X.K x))) (hbW : Binds X.K fdw [b] []) (SW : FnScope (b :: er :: Nr) [b] (defScope stw))
    (hst : ∃ q1 p1 p2 p3 q2, defBody stw = .Assign [.Name er q1] (.Call (.Name y p1) [.Name b p2] [] p3) q2 :: (defBody stw).tail)
    (hkx : ∀ z ∈ kx, X.mg z = some (.ref (He.ga X.K z)) ∧ PySem.W.exmOne X.K (.ref (He.ga X.K z)) (.ref (He.ga X.K ke)) = some true)
    (TB : LamX.TabB X.base X.mg cc PT) (hcode : X.env.code = .ref cc) (hmT : (PT, X.env.qual ++ "<lambda>") ∈ dl.tabs) (hu : ∀ p ∈ dl.tabs, p.1 = PT → p.2 = X.env.qual ++ "<lambda>") (hr : Room (k + 3) X.A) (L : LamX.LamS X.env.scope scope)
    (hbody : ∀ (A : Around) (outer : List Env) (s : Shared) (H : Hp) (E : XK) (fa c' : Addr), Room k (LamX.lamCx X A outer s H E scope fa c').A → Takes (LamX.lamCx X A outer s H E scope fa c') (fun cls d _ H => E cls d H) → DE (LamX.lamCx X A outer s H E scope fa c') dl (fun cls d _ H => E cls d H) body f)
    (hrest : ∀ (cdw : Value) (s : Shared) (H : Hp), Room (k + 2) (cxOf C8.CX0 X.prog X.w X.K X.mg X.base (b :: er :: Nr) x (defScope stw) (He.ga X.K x) cdw X.A X.stack s H C8.E0).A → DSs (cxOf C8.CX0 X.prog X.w X.K X.mg X.base (b :: er :: Nr) x (defScope stw) (He.ga X.K x) cdw X.A X.stack s H C8.E0).nox dl (fun _ _ _ _ => False) (defBody stw).tail br)
    (hbind : ∀ (q : Str) (cl : List (Str × Addr)) (pm cv ctv : Value), bindArgs (PySem.W.kla_fn "<lambda>" q params body scope cl pm cv ctv) ⟨[], []⟩ = pure [])
    (hvb : Vis (defScope stw) b := by exact Or.inl rfl) (her : (defScope stw).names.lookup er = some .local := by rfl) (hgy : (defScope stw).names.lookup y = some .globalImplicit := by rfl)
    (hg : Gl X x := by rfl) (hdef : defaultsOf params X.env = ([], []) := by rfl) (hdb : (x == ("__debug__" : Str)) = false := by decide) (hdy : (y == ("__debug__" : Str)) = false := by decide) (hd : (a == ("__debug__" : Str)) = false := by decide) (hcd : (a == ("__classdict__" : Str)) = false := by decide) (hdw : (b == ("__debug__" : Str)) = false := by decide) (hcdw : (b == ("__classdict__" : Str)) = false := by decide) :
    DE X dl W (.Call (.Name x p) [.Lambda params body scope lpos] [] pos) (gWord kx f (Nr.length + 2) br) := by
  obtain ⟨fd, pg, sg, c, n, j, r1', r2', r3', t1, t2, t3, t4, t5, t6, t7, t8, t9, u1, u2, F, hb, Sg, va, gx, gk, s1, s2, s3, s4, s5, s6, s7, s8, s9⟩ := T.ex
  have kp := F.kp
  have kpw := FW.kp
  obtain ⟨oc, od, dV, kV, doc, pm, an, cdv, ct, osl, rfl, lk, hcd2, _, _⟩ := F.ex
  obtain ⟨ocw, odw, dVw, kVw, docw, pmw, anw, cdw, ctw, oslw, rfl, lkw, hcdw2, _, _⟩ := FW.ex
  refine PE.of (pe_wordcall (T := dl.tabs) (k := k) (TT := TCaught X.K (He.ga X.K ke)) (TTw := TWord X dl (He.ga X.K ke) (b :: er :: Nr) br) (tka := fun E => tD X dl (fun cls d _ H => E cls d H) f) hg gw kpw lkw hcdw2 hbW SW rfl hvb hgy gx kp lk hcd2 hb Sg rfl va (fun s H => caught_gives s1 gk s2 s3 s4 s5 s6 s7 s8 s9) (fun fa c' s H Q tl act hrW hco ht => ?_) TB hcode hmT hu hr L hdef hbind (fun A outer s H E fa c' hr' => hbody A outer s H E fa c' hr' (takes_of rfl rfl rfl rfl)) hdb hdy hd hcd hdw hcdw) fun sg' H Q q => ?_
  · obtain ⟨q1, p1, p2, p3, q2, hst⟩ := hst
    rw [hst]
    refine ⟨_, pss_cons (ps_set (i := 1) SW.nd rfl (Or.inl her) (act p1 p2 p3)) (hrest cdw s H hrW), rfl, hco, ?_⟩
    exact ht
  · obtain ⟨F, F0, H0, G, s, w, S, g⟩ := q
    refine ⟨fun q hq => ?_, fun H1 ex tb fa => ?_⟩
    · obtain ⟨ps, h1, h2, h3⟩ := w.tb.at_ q hq
      exact ⟨ps, h1, h2, fun pos cv hc => by
        obtain ⟨c, e1, e2⟩ := h3 pos cv hc
        exact ⟨c, e1, w.sub _ _ e2⟩⟩
    · obtain ⟨F1, st1, w1⟩ := wd_grown w ex tb
      refine ⟨F1, F0, H0, G, s, w1, S.step st1, ?_⟩
      have g := g.bnd
      unfold gCaught at g
      cases e : f G s with
      | none => rw [e] at g; exact g.elim
      | some r =>
        obtain ⟨r, s2⟩ := r
        rw [e] at g
        cases r with
        | ok d => exact fun F2 H2 st2 w2 v _ => ⟨.non, rfl, wordM_go (X := X) (d := .non) Step.refl w2 (show Rep X.K X.mg dl F2 .non .non from rfl) (g F2 H2 (st1.trans st2) w2) fa⟩
        | err y =>
          have g : Go X.mg X.K dl (fun c d H' => W c d sg' H') F H (if kx.contains y.cls then some (Res.ok (D.exc y.cls y.ns y.xs), s2) else none) (fun a s1 F1 H1 => Go X.mg X.K dl (fun c d H' => W c d sg' H') F1 H1 (noErr (wordM (Nr.length + 2) br a) s1) fun a _ F' H' => ∀ v, Rep X.K X.mg dl F' a v → Q v H') := g
          cases hc : kx.contains y.cls with
          | false => rw [hc] at g; exact g.elim
          | true =>
            rw [hc] at g
            intro F2 H2 cls d st2 w2 xr
            obtain ⟨C, x1, x2, x3⟩ := xr
            obtain ⟨m1, m2⟩ := hkx y.cls (by simpa using hc)
            rw [x1] at m1
            have m1 := Option.some.inj m1
            injection m1 with m1
            subst m1
            subst x2
            refine ⟨m2, fun e he => ?_⟩
            refine wordM_go Step.refl (w2.new he ExK_nt) ?_ (g (upd F2 e (ExK e (.ref _) d)) (upd H2 e (ExK e (.ref _) d)) ((st1.trans st2).trans (Step.new w2 he)) (w2.new he ExK_nt)) fa
            have mo := (Step.new (o := ExK e (.ref (He.ga X.K y.cls)) d) w2 he).fs
            rcases x3 with ⟨n1, n2, n3⟩ | ⟨n1, da, vs, n2, n3, n4, n5⟩
            · subst n3
              refine ⟨e, _, [], rfl, x1, by rw [n1]; rfl, .inl ⟨n1, upd_same⟩, by rw [n2]; rfl⟩
            · subst n2
              exact ⟨e, _, vs, rfl, x1, n4, .inr ⟨da, n1, upd_same, mo _ _ n3⟩, RepL.mono mo _ _ n5⟩
end
end EK


namespace EK
open PySem PySem.Spec PyProof.Rows L2
section
variable {prog : Program} {w : World} {A : Around} {E : Value → Shared → Prop} {s : Shared}
end
def sortRL (ds : List D) : List D := ds.mergeSort (PySem.W.dataLe true pD)
def sortedRK : List D → List D → Option D
  | [.lst xs], [.bl true] => if canSort xs then some (.lst (sortRL xs)) else none
  | _, _ => none
def rCDK (X : Cx) (dl : Dr) (g : List D → List D → Option D) : List V → List V → Hp → VK → Prop := fun xs zs H Q =>
  ∃ (F : Hp) (s : DS) (ds es : List D) (d : D), Wd dl F H s ∧ RepL X.K X.mg dl F ds xs ∧ RepL X.K X.mg dl F es zs ∧ g ds es = some d ∧ ∀ F' H' v, Step dl F H F' H' → Wd dl F' H' s → Rep X.K X.mg dl F' d v → Q v H'
def gCK (g : List D → List D → Option D) (fa fk : SA) : SE := fun G => bnd (fa G) fun ds => bnd (fk G) fun es => ofO (g ds es)
section
variable {X : Cx} {dl : Dr} {W : WX}
variable {x : Str} {p pos : Pos} {id : String} {ks : List Str} {g : List D → List D → Option D} {es : List Expr} {kws : List Keyword} {ra rk : SA} {e : Expr}
end
end EK


namespace EK
open PySem PySem.Spec PyProof.Rows L2
section
variable {prog : Program} {w : World} {K : Type} [DecidableEq K] {knd : KeyKind prog w K} {A : Around} {E : Value → Shared → Prop} {s : Shared}
abbrev pairT (ke ve : Expr) (env : Env) (pos : Pos) : List (Sem Value × Sem Value) := pairTrees [some ke] [ve] env pos
end
section
variable {X : Cx} {pos : Pos} {dv ke ve : Expr} {td tk tv : TE}
def tDispS (td tk tv : TE) : TE := fun sg H Q => ∀ p, H p = none → td sg (upd H p (.dK [])) fun x H1 => ∃ (a : Addr) (kvs : List (Key × V)), x = .ref a ∧ p ≠ a ∧ Rd H1 a (.dK kvs) ∧ kvs.length ≤ 1000 ∧ H1 p = some (.dK []) ∧
  ∀ q, (upd H1 p (.dK kvs)) q = none → tPairs [(tk, tv)] sg (upd (upd H1 p (.dK kvs)) q (.dK [])) fun ps H3 => H3 p = some (.dK kvs) ∧ H3 q = some (.dK []) ∧ ∃ (k : Key) (z : V), ps = [(kV k, z)] ∧
    Q (.ref p) (upd (upd H3 q (.dK [(k, z)])) p (.dK (putK kvs k z)))
end
def asDct : D → Option (List Key × List D)
  | .dct ks xs => if ks.length < 1000 then some (ks, xs) else none
  | _ => none
def putR (r : List Key × List D) : List (Key × D) → Option D
  | [p] => some (.dct (putKs r.1 p.1) (putXs r.1 r.2 p.1 p.2))
  | _ => none
def gDispS (fd fk fv : SE) : SE := fun G => bnd (fd G) fun d => bnd (ofO (asDct d)) fun r => bnd (gPairs [(fk, fv)] G) fun kvs => ofO (putR r kvs)
section
variable {X : Cx} {dl : Dr} {W : WX} {pos : Pos}
end
end EK


namespace EK
open PySem PySem.Spec PyProof.Rows L2
def gIxX (i : Nat) (f : SE) : SE := fun G => bnd (ofO (xAt G i)) fun r => bnd (f G) fun k => ofO ((keyOf k).bind fun j => atK r.1 r.2 j)
section
variable {X : Cx} {dl : Dr} {W : WX} {e b : Expr} {f : SE} {pos p : Pos} {x : Str}
end
end EK


namespace EK
open PySem PySem.Spec PyProof.Rows L2
end EK


namespace EK
open PySem PySem.Spec PyProof.Rows L2
section
variable {X : Cx} {dl : Dr} {W : WX} {b : Expr} {fb : SE} {g : D → D → Option D} {p pos : Pos} {x : Str}
end
end EK


namespace EK
open PySem PySem.Spec PyProof.Rows L2
section
variable {X : Cx} {dl : Dr} {W : WX} {pos : Pos}
end
end EK


namespace EK
open PySem PySem.Spec PyProof.Rows L2
section
variable {prog : Program} {w : World} {A : Around} {E : Value → Shared → Prop} {s : Shared} {a kS : Addr} {b : Bool} {vs : List Value} {keys : Array Value} {e e1 : Nat} {P : PySem.Fin → Shared → Prop}
end
def mapMM (m : D → M D) : List D → M (List D)
  | [] => ret []
  | x :: r => bnd (m x) fun k => bnd (mapMM m r) fun ks => ret (k :: ks)
def sortKL (ds ks : List D) : List D := ((ds.zip ks).mergeSort (PySem.W.dataLe false fun p => pD p.2)).map (·.1)
def sortKey (m : List D → M D) : List D → M D
  | [.lst xs] => bnd (mapMM (fun d => noErr (m [d])) xs) fun ks => if canSort ks then ret (.lst (sortKL xs ks)) else fail
  | _ => fail
section
variable {X : Cx} {dl : Dr} {W : WX}
/-- the state of the loop over the keys -/
def KeySt (X : Cx) (dl : Dr) (pins : List (Addr × Obj)) (sg : L2.St) (kS : Addr) {α : Type} (f : D → M D) (ds : List D) (cont : List D → M α) (q : α → DS → Hp → Hp → Prop) (F1 H1 : Hp) (i : Nat) (s' : Shared) : Prop :=
  ∃ (F' H' : Hp) (st' : DS) (kA : Array Value) (e : Nat) (kds : List D) (kvs : List V), Inv X ((kS, seqObj "list" kA e) :: pins) sg H' s' ∧ Step dl F1 H1 F' H' ∧ Wd dl F' H' st' ∧ RepL X.K X.mg dl F' kds kvs ∧ Vals kvs kA.toList ∧ kds.length = i ∧
    Go X.mg X.K dl (fun _ _ _ => False) F' H' (bnd (mapMM f (ds.drop i)) (fun ks => cont (kds ++ ks)) st') q
theorem RepL.snoc {K : PySem.W.Frag} {mg : Str → Option Value} {F : Hp} {d : D} {v : V} (h : Rep K mg dl F d v) : ∀ {ds : List D} {vs : List V}, RepL K mg dl F ds vs → RepL K mg dl F (ds ++ [d]) (vs ++ [v])
  | [], vs, r => by
    cases (show vs = [] from r)
    exact ⟨v, [], rfl, h, rfl⟩
  | x :: ds, vs, r => by
    obtain ⟨y, ys, rfl, h1, h2⟩ := r
    exact ⟨y, ys ++ [v], rfl, h1, RepL.snoc h h2⟩
theorem Vals.snoc {v : V} {u : Value} (h : RelV v u) : ∀ {vs : List V} {us : List Value}, Vals vs us → Vals (vs ++ [v]) (us ++ [u])
  | _, _, .nil => .cons h .nil
  | _, _, .cons a b => .cons a (Vals.snoc h b)
/-- what stands behind the sort's own records -/
structure KeyA (X : Cx) (pins : List (Addr × Obj)) (a kS : Addr) : Prop where
  ne : kS ≠ a
  a0 : X.s_0.heap.objs.size ≤ a
  k0 : X.s_0.heap.objs.size ≤ kS
  al : a ≠ X.env.locals
  kl : kS ≠ X.env.locals
  ac : ∀ x c, X.env.cells.lookup x = some c → c ≠ a
  kc : ∀ x c, X.env.cells.lookup x = some c → c ≠ kS
  ap : ∀ p ∈ X.pn ++ pins, p.1 ≠ a
  kp : ∀ p ∈ X.pn ++ pins, p.1 ≠ kS
  kf : kS ∉ X.fs
def rKey (X : Cx) (dl : Dr) (f : Addr) (m : List D → M D) : List V → List V → Hp → VK → Prop := fun xs zs H Q => zs = [.ref f] ∧ rCM X dl (sortKey m) xs H Q
def gSortK (m : List D → M D) (fa : SA) : SE := fun G => bnd (fa G) fun ds => noErr (sortKey m ds)
variable {p pf pos kpos : Pos} {fn : Str} {e : Expr} {ra : SA} {k : Nat} {m : List D → M D}
end
end EK


namespace EK
open PySem PySem.Spec PyProof.Rows L2
mutual
def tflat : D → Bool
  | .non => true
  | .bl _ => true
  | .int _ => true
  | .str _ => true
  | .tup ds => tflats ds
  | _ => false
def tflats : List D → Bool
  | [] => true
  | d :: ds => tflat d && tflats ds
end
mutual
def noL : PyData → Bool
  | .none => true
  | .bool _ => true
  | .int _ => true
  | .str _ => true
  | .tuple ps => noLs ps
  | _ => false
def noLs : List PyData → Bool
  | [] => true
  | p :: ps => noL p && noLs ps
end
def tupP (d : D) : Option PyData := if tflat d = true then toP d else none
def dctPT (ks : List Key) (xs : List D) : Option PyData := (xs.mapM tupP).map fun ps => .dict ((ks.map keyP).zip ps)
def reprT : List D → Option D
  | [.dct ks xs] => (dctPT ks xs).bind showX
  | ds => reprD ds
section
variable {X : Cx} {dl : Dr} {pins : List (Addr × Obj)} {sg : L2.St} {F H : Hp} {s : Shared}
end
section
variable {K : PySem.W.Frag} {mg : Str → Option Value} {dl : Dr} {F H : Hp}
end
section
variable {X : Cx} {dl : Dr} {W : WX} {pos p apos cpos : Pos} {e : Expr} {f : SE}
end
end EK


namespace EK
open PySem PySem.Spec PyProof.Rows L2
def sSetXPop (i l : Nat) (fv : SE) : SS := fun G => bnd (fv G) fun d => bnd (ofO (xAt G i)) fun r => bnd (ofO (ownAt G l)) fun ds => bnd (ofO ds[ds.length - 1]?) fun kd => bnd (ofO (keyOf kd)) fun j => if r.1.length < 1000 then ret (.next ((G.set l (some (.own ds.dropLast))).set i (some (.ownX (.k (putKs r.1 j)) (putXs r.1 r.2 j d))))) else fail
theorem RepL.dropLast {K : PySem.W.Frag} {mg : Str → Option Value} {dl : Dr} {F : Hp} : ∀ {ds : List D} {vs : List V}, RepL K mg dl F ds vs → RepL K mg dl F ds.dropLast vs.dropLast
  | [], vs, h => by have h : vs = [] := h; subst h; rfl
  | [d], vs, h => by
    obtain ⟨u, us, rfl, h1, h2⟩ := h
    cases (show us = [] from h2)
    rfl
  | d :: e :: ds, vs, h => by
    obtain ⟨u, us, rfl, h1, h2⟩ := h
    obtain ⟨u2, us2, rfl, h3, h4⟩ := h2
    exact ⟨u, _, rfl, h1, RepL.dropLast (ds := e :: ds) (vs := u2 :: us2) ⟨u2, us2, rfl, h3, h4⟩⟩
section
variable {X : Cx} {dl : Dr} {W : WX} {pos : Pos} {e : Expr}
end
end EK


namespace EK
open PySem PySem.Spec PyProof.Rows L2
mutual
def dflat : D → Bool
  | .non => true
  | .bl _ => true
  | .int _ => true
  | .str _ => true
  | .tup ds => dflats ds
  | .lst ds => dflats ds
  | _ => false
def dflats : List D → Bool
  | [] => true
  | d :: ds => dflat d && dflats ds
end
mutual
def noDc : PyData → Bool
  | .none => true
  | .bool _ => true
  | .int _ => true
  | .str _ => true
  | .tuple ps => noDcs ps
  | .list ps => noDcs ps
  | _ => false
def noDcs : List PyData → Bool
  | [] => true
  | p :: ps => noDc p && noDcs ps
end
def datP (d : D) : Option PyData := if dflat d = true then toP d else none
def LsA (h : Heap) (as : List Addr) : Prop := ∀ b ∈ as, ∃ o, h.get? b = some o ∧ o.cls = .type "list"
def dctPL (ks : List Key) (xs : List D) : Option PyData := (xs.mapM datP).map fun ps => .dict ((ks.map keyP).zip ps)
def reprL : List D → Option D
  | [.dct ks xs] => (dctPL ks xs).bind showX
  | ds => reprD ds
section
variable {X : Cx} {dl : Dr} {pins : List (Addr × Obj)} {sg : L2.St} {F H : Hp} {s : Shared}
end
section
variable {K : PySem.W.Frag} {mg : Str → Option Value} {dl : Dr} {F H : Hp}
end
section
variable {X : Cx} {dl : Dr} {W : WX}
end
end EK


namespace EK
open PySem PySem.Spec PyProof.Rows L2
def fuelZ (i : Nat) (G : Sls) : Nat := (match G[i]? with
  | some (some (.fz (.lst ds))) => ds.length
  | _ => 0) + 1
end EK


namespace EK
open PySem PySem.Spec PyProof.Rows L2
def sliceT (lo hi : Option Int) : D → Option D
  | .str x => if x.length ≤ sizeLine then some (.str (cutS x lo hi)) else none
  | _ => none
def gSlT (f : SE) (lo hi : SO) : SE := fun G => bnd (f G) fun d => bnd (lo G) fun l => bnd (hi G) fun u => ofO (sliceT l u d)
section
variable {X : Cx} {dl : Dr} {W : WX}
theorem de_sliceT {e : Expr} {l u : Option Expr} {f : SE} {fl fu : SO} {p2 pos : Pos} (he : DE X dl W e f) (hl : DOp X dl W l fl) (hu : DOp X dl W u fu) : DE X dl W (.Subscript e (.Slice l u none p2) pos) (gSlT f fl fu) := by
  refine PE.of (pe_slice sl_str he hl hu) fun sg H Q q => ?_
  obtain ⟨F, q⟩ := q
  refine ⟨F, q.bnd.imp fun d F1 H1 ⟨st1, q1⟩ v rv => ⟨F1, q1.bnd.imp fun lo F2 H2 ⟨st2, q2⟩ => ⟨F2, q2.bnd.imp fun hi F3 H3 ⟨st3, q3⟩ => ?_⟩⟩⟩
  obtain ⟨r, s, e1, w, q4⟩ := q3.op
  have rv3 := Rep.mono (st2.trans st3).fs _ _ rv
  cases d with
  | str x =>
    have e1 : (if x.length ≤ sizeLine then some (D.str (cutS x lo hi)) else none) = some r := e1
    by_cases hx : x.length ≤ sizeLine
    · rw [if_pos hx] at e1
      cases e1
      cases (show v = .str x from rv3)
      exact ⟨x, rfl, hx, q4 F3 H3 Step.refl w _ rfl⟩
    · rw [if_neg hx] at e1
      cases e1
  | _ => cases e1
end
end EK


namespace EK
open PySem PySem.Spec PyProof.Rows L2
def T.kid : T → Nat → Option T
  | .lst ts, j => ts[j]?
  | .dct _ ts, j => ts[j]?
  | _, _ => none
def T.at : T → List Nat → Option T
  | t, [] => some t
  | t, j :: p => (t.kid j).bind fun c => c.at p
termination_by _ p => p.length
def T.setKid : T → Nat → T → T
  | .lst ts, j, c => .lst (ts.set j c)
  | .dct k ts, j, c => .dct k (ts.set j c)
  | t, _, _ => t
def T.setAt : T → List Nat → T → T
  | _, [], n => n
  | t, j :: p, n => match t.kid j with
    | some c => t.setKid j (c.setAt p n)
    | none => t
termination_by _ p _ => p.length
/-- u is the item j of w -/
def KidV (H : Hp) (w : V) (j : Nat) (u : V) : Prop := ∃ (a : Addr) (vs : List V), w = .ref a ∧ (H a = some (.lst vs) ∨ ∃ k : OK, H a = some (k.ho vs) ∧ k.len = vs.length) ∧ vs[j]? = some u
def NodeV (H : Hp) : V → List Nat → V → Prop
  | v, [], u => u = v
  | v, j :: p, u => ∃ w, KidV H v j w ∧ NodeV H w p u
theorem NodeV.snoc {H : Hp} {j : Nat} {u : V} : ∀ {p : List Nat} {v w : V}, NodeV H v p w → KidV H w j u → NodeV H v (p ++ [j]) u
  | [], v, w, h, k => by
    have h : w = v := h
    subst h
    exact ⟨u, k, rfl⟩
  | i :: p, v, w, h, k => by
    obtain ⟨x, h1, h2⟩ := h
    exact ⟨x, h1, h2.snoc k⟩
section
variable {K : PySem.W.Frag} {mg : Str → Option Value} {dl : Dr} {F H F' H' : Hp}
theorem KidV.det {j : Nat} {w u u' : V} (h : KidV H w j u) (h' : KidV H w j u') : u = u' := by
  obtain ⟨a, vs, rfl, h2, h3⟩ := h
  obtain ⟨b, ws, e, g2, g3⟩ := h'
  cases e
  have : vs = ws := by
    rcases h2 with h2 | ⟨k, h2, h4⟩ <;> rcases g2 with g2 | ⟨k', g2, g4⟩
    · rw [h2] at g2; cases g2; rfl
    · rw [h2] at g2; cases k' <;> cases g2
    · rw [h2] at g2; cases k <;> cases g2
    · rw [h2] at g2
      have e := Option.some.inj g2
      cases k with
      | k ks =>
        cases k' with
        | k ks' =>
          have e : ks.zip vs = ks'.zip ws := by injection e
          have := congrArg (List.map Prod.snd) e
          rw [List.map_snd_zip (by show vs.length ≤ ks.length; have : ks.length = vs.length := h4; omega), List.map_snd_zip (by have : ks'.length = ws.length := g4; omega)] at this
          exact this
        | t ks' => cases e
        | u n' => cases e
      | t ks =>
        cases k' with
        | t ks' =>
          have e : ks.zip vs = ks'.zip ws := by injection e
          have := congrArg (List.map Prod.snd) e
          rw [List.map_snd_zip (by show vs.length ≤ ks.length; have : ks.length = vs.length := h4; omega), List.map_snd_zip (by have : ks'.length = ws.length := g4; omega)] at this
          exact this
        | k ks' => cases e
        | u n' => cases e
      | u n =>
        cases k' with
        | k ks' => cases e
        | t ks' => cases e
        | u n' => injection e
  subst this
  rw [h3] at g3
  exact Option.some.inj g3
theorem NodeV.det : ∀ {p : List Nat} {v u u' : V}, NodeV H v p u → NodeV H v p u' → u = u'
  | [], v, u, u', h, h' => by
    have h : u = v := h
    have h' : u' = v := h'
    rw [h, h']
  | j :: p, v, u, u', h, h' => by
    obtain ⟨w, h1, h2⟩ := h
    obtain ⟨w', g1, g2⟩ := h'
    have := h1.det g1
    subst this
    exact NodeV.det h2 g2
theorem tr_node : ∀ {t : T} {v : V} {as : List Addr}, TR K mg dl F H t v as → ∀ a ∈ as, ∃ vs, H a = some (.lst vs) ∨ ∃ k : OK, H a = some (k.ho vs) := by
  have both : ∀ (n : Nat), (∀ (t : T) (v : V) (as : List Addr), sizeOf t < n → TR K mg dl F H t v as → ∀ a ∈ as, ∃ vs, H a = some (.lst vs) ∨ ∃ k : OK, H a = some (k.ho vs)) ∧
      (∀ (ts : List T) (vs : List V) (as : List Addr), sizeOf ts < n → TRL K mg dl F H ts vs as → ∀ a ∈ as, ∃ vs, H a = some (.lst vs) ∨ ∃ k : OK, H a = some (k.ho vs)) := by
    intro n
    induction n with
    | zero => exact ⟨fun t v as h => absurd h (Nat.not_lt_zero _), fun t v as h => absurd h (Nat.not_lt_zero _)⟩
    | succ n ih =>
      refine ⟨fun t v as hs h => ?_, fun ts vs as hs h => ?_⟩
      · cases t with
        | fz d =>
          obtain ⟨rfl, _⟩ := h
          exact fun a ha => nomatch ha
        | lst ts =>
          obtain ⟨a, vs, bs, h1, rfl, h3, h4, h5⟩ := h
          intro b hb
          rcases List.mem_cons.mp hb with rfl | hb
          · exact ⟨vs, .inl h3⟩
          · exact ih.2 ts vs bs (by simp at hs; omega) h5 b hb
        | dct k ts =>
          obtain ⟨a, vs, bs, h1, rfl, h3, h4, h5, h6⟩ := h
          intro b hb
          rcases List.mem_cons.mp hb with rfl | hb
          · exact ⟨vs, .inr ⟨k, h3⟩⟩
          · exact ih.2 ts vs bs (by simp at hs; omega) h6 b hb
      · cases ts with
        | nil =>
          obtain ⟨_, rfl⟩ := h
          exact fun a ha => nomatch ha
        | cons t ts =>
          obtain ⟨v, vs', a1, a2, rfl, rfl, h3, h4⟩ := h
          intro b hb
          rcases List.mem_append.mp hb with hb | hb
          · exact ih.1 t v a1 (by simp at hs; omega) h3 b hb
          · exact ih.2 ts vs' a2 (by simp at hs; omega) h4 b hb
  intro t v as h
  exact (both (sizeOf t + 1)).1 t v as (Nat.lt_succ_self _) h
theorem RepL.tree : ∀ {ds : List D} {vs : List V}, RepL K mg dl F ds vs → TRL K mg dl F H (ds.map T.fz) vs []
  | [], vs, h => ⟨h, rfl⟩
  | d :: ds, vs, h => by
    obtain ⟨v, vs', rfl, h1, h2⟩ := h
    exact ⟨v, vs', [], [], rfl, rfl, ⟨rfl, h1⟩, RepL.tree h2⟩
end
section
variable (X : Cx) (dl : Dr) (W : WX)
def NewTs (H : Hp) (ts : List T) (F' H' : Hp) (vs : List V) : Prop := ∃ as, TRL X.K X.mg dl F' H' ts vs as ∧ as.Nodup ∧ ∀ a ∈ as, H a = none ∧ F' a = none
abbrev STr := Sls → M T
abbrev STs := Sls → M (List T)
def tDTr (f : STr) : TE := fun sg H Q => ∃ F, tGF X dl W F f (fun t F' H' => ∀ v, NewT X dl H t F' H' v → Q v H') sg H
def tDTs (f : STs) : TA := fun sg H Q => ∃ F, tGF X dl W F f (fun ts F' H' => ∀ vs, NewTs X dl H ts F' H' vs → Q vs H') sg H
abbrev DET (e : Expr) (f : STr) : Prop := PE X e (tDTr X dl W f)
abbrev DATs (es : List Expr) (f : STs) : Prop := PA X es (tDTs X dl W f)
end
section
variable {X : Cx} {dl : Dr} {W : WX} {pos p : Pos} {e : Expr} {es : List Expr} {F0 H0 F H F1 H1 : Hp} {E : Ends}
theorem NewT.step {t : T} {v : V} {F2 H2 : Hp} {s : DS} (w : Wd dl F H s) (h : NewT X dl H t F1 H1 v) (st : Step dl F1 H1 F2 H2) : NewT X dl H t F2 H2 v := by
  obtain ⟨as, h1, h2, h3⟩ := h
  have so := TR.some t v as h1
  refine ⟨as, TR.mono st.fs t v as (fun a ha => ?_) h1, h2, fun a ha => ⟨(h3 a ha).1, ?_⟩⟩
  · obtain ⟨o, ho⟩ := so a ha
    rw [ho]
    exact st.hs a o (w.na (h3 a ha).1) ho
  · obtain ⟨o, ho⟩ := so a ha
    cases q : F2 a with
    | none => rfl
    | some u =>
      rcases st.nw a u q with z | z
      · rw [(h3 a ha).2] at z; cases z
      · rw [ho] at z; cases z
def trF (f : SE) : STr := fun G => bnd (f G) fun d => ret (.fz d)
def trO (f : SA) : STr := fun G => bnd (f G) fun ds => ret (.lst (ds.map T.fz))
def trX (f : SX) : STr := fun G => bnd (f G) fun r => ret (.dct r.1 (r.2.map T.fz))
def trPairs : List (SE × STr) → Sls → M (List (Key × T))
  | [], _ => ret []
  | p :: r, G => bnd (p.1 G) fun y => bnd (ofO (keyOf y)) fun j => bnd (p.2 G) fun z => bnd (trPairs r G) fun rest => ret ((j, z) :: rest)
def trDisp (l : List (SE × STr)) : STr := fun G => bnd (trPairs l G) fun kvs => ofO (if kvs.length ≤ 15 ∧ nodupK (kvs.map (·.1)) = true then some (.dct (.k (kvs.map (·.1))) (kvs.map (·.2))) else none)
abbrev trsT (X : Cx) (dl : Dr) (W : WX) (l : List (SE × STr)) : List (TE × TE) := l.map fun p => (tD X dl W p.1, tDTr X dl W p.2)
theorem NewT.cons {t : T} {v : V} {ts : List T} {vs : List V} {F2 H2 : Hp} {s : DS} (w : Wd dl F H s) (h : NewT X dl H t F1 H1 v) (st : Step dl F1 H1 F2 H2) (al : ∀ b, H1 b = none → H b = none) (hs : NewTs X dl H1 ts F2 H2 vs) : NewTs X dl H (t :: ts) F2 H2 (v :: vs) := by
  have so : ∃ as, TR X.K X.mg dl F1 H1 t v as ∧ as.Nodup ∧ ∀ a ∈ as, H a = none ∧ F1 a = none := h
  obtain ⟨as, h1, h2, h3⟩ := so
  obtain ⟨as', k1, k2, k3⟩ := NewT.step w h st
  have e : as' = as := by
    have m := TR.mono st.fs t v as (fun a ha => by
      obtain ⟨o, ho⟩ := TR.some t v as h1 a ha
      rw [ho]
      exact st.hs a o (w.na (h3 a ha).1) ho) h1
    exact TR.det t v _ _ k1 m
  subst e
  obtain ⟨bs, g1, g2, g3⟩ := hs
  refine ⟨as' ++ bs, ⟨v, vs, as', bs, rfl, rfl, k1, g1⟩, List.nodup_append.mpr ⟨k2, g2, fun x hx y hy e => ?_⟩, fun a ha => ?_⟩
  · subst e
    obtain ⟨o, ho⟩ := TR.some t v as' h1 x hx
    rw [(g3 x hy).1] at ho
    cases ho
  · rcases List.mem_append.mp ha with q | q
    · exact k3 a q
    · exact ⟨al a (g3 a q).1, (g3 a q).2⟩
end
end EK


namespace EK
open PySem PySem.Spec PyProof.Rows L2
def treeAt (G : Sls) (i : Nat) : Option T := match G[i]? with
  | some (some (.tree t)) => some t
  | _ => none
section
variable {X : Cx} {dl : Dr} {W : WX} {pos p : Pos} {e : Expr} {es : List Expr} {F0 H0 F H F1 H1 : Hp} {E : Ends}
/-- a new tree in a slot -/
def sTr (i : Nat) (f : STr) : SS := fun G => bnd (f G) fun t => ret (.next (G.set i (some (.tree t))))
abbrev SPth := Sls → M (List Nat)
section
variable (X : Cx) (dl : Dr) (W : WX)
def tPth (i : Nat) (f : SPth) : TE := fun sg H Q => ∃ F, tGF X dl W F f (fun p _ H' => ∀ v u, sg[i]? = some (some v) → NodeV H' v p u → Q u H') sg H
abbrev DPt (i : Nat) (e : Expr) (f : SPth) : Prop := PE X e (tPth X dl W i f)
end
def gT0 (i : Nat) : SPth := fun G => bnd (ofO (treeAt G i)) fun _ => ret []
def posK : List Key → Key → Option Nat
  | [], _ => none
  | k :: ks, j => if k = j then some 0 else (posK ks j).map (· + 1)
def T.posOf (n : T) (k : D) : Option Nat := match n with
  | .dct (.k ks) _ => (keyOf k).bind fun j => posK ks j
  | _ => none
def gTK (i : Nat) (fp : SPth) (fk : SE) : SPth := fun G => bnd (fp G) fun p => bnd (fk G) fun k => bnd (ofO (treeAt G i)) fun t => bnd (ofO (t.at p)) fun n => bnd (ofO (n.posOf k)) fun j => bnd (ofO (n.kid j)) fun _ => ret (p ++ [j])
/-- a leaf read -/
def gLeaf (i : Nat) (fp : SPth) : SE := fun G => bnd (fp G) fun p => bnd (ofO (treeAt G i)) fun t => bnd (ofO (t.at p)) fun n => match n with
  | .fz d => ret d
  | _ => fail
def NewAt (X : Cx) (dl : Dr) (H0 F H : Hp) (sg : L2.St) (G : Sls) (x : Addr) : Prop := F x = none ∧ H0 x = none ∧ ¬ dl.has x ∧ (∀ fp, TrOk X.K X.mg dl H0 F H sg G fp → ∀ (j : Nat) (t : T), G[j]? = some (some (.tree t)) → x ∉ fp j) ∧ ∀ (j : Nat) (s : Sl), G[j]? = some (some s) → s.isOwn = true → sg[j]? ≠ some (some (.ref x))
end
end EK


namespace EK
open PySem PySem.Spec PyProof.Rows L2
section
variable {K : PySem.W.Frag} {mg : Str → Option Value} {dl : Dr} {F H : Hp}
end
def T.putK (n : T) (j : Key) (tv : T) : Option T := match n with
  | .dct (.k ks) ts => if ks.length < 1000 then some (.dct (.k (putKs ks j)) (putXs ks ts j tv)) else none
  | _ => none
section
variable {X : Cx} {dl : Dr} {W : WX} {pos p : Pos} {e : Expr} {es : List Expr} {F0 H0 F H F1 H1 : Hp} {E : Ends}
/-- x[..][k] = e -/
def sSetT (i : Nat) (fv : STr) (fp : SPth) (fk : SE) : SS := fun G => bnd (fv G) fun tv => bnd (fp G) fun p => bnd (fk G) fun k => bnd (ofO (keyOf k)) fun j => bnd (ofO (treeAt G i)) fun t => bnd (ofO (t.at p)) fun n => bnd (ofO (n.putK j tv)) fun n' => ret (.next (G.set i (some (.tree (t.setAt p n')))))
/-- x[..].append(e) -/
def lstAt (G : Sls) (i : Nat) (p : List Nat) : Option (T × List T) := match treeAt G i with
  | some t => match t.at p with
    | some (.lst ts) => some (t, ts)
    | _ => none
  | none => none
def sAppT (i : Nat) (fp : SPth) (f : SE) : SS := fun G => bnd (fp G) fun p => bnd (ofO (lstAt G i p)) fun r => bnd (f G) fun d => if r.2.length < sizeLine then ret (.next (G.set i (some (.tree (r.1.setAt p (.lst (r.2 ++ [.fz d]))))))) else fail
/-- x[..].clear() of a list -/
def sClrT (i : Nat) (fp : SPth) : SS := fun G => bnd (fp G) fun p => bnd (ofO (lstAt G i p)) fun r => ret (.next (G.set i (some (.tree (r.1.setAt p (.lst []))))))
end
inductive LockC (P : Hp → Prop) : Hp → Prop where
  | here {H : Hp} : P H → LockC P H
  | lock {H : Hp} {d : Addr} {u : HO} : H d = some u → Mut (some u) → (∀ od, LockC P (upd H d (.frz od u))) → LockC P H
theorem LockC.join {P : Hp → Prop} {H : Hp} (h : LockC (LockC P) H) : LockC P H := by
  induction h with
  | here h => exact h
  | lock hd mu _ ih => exact .lock hd mu ih
section
variable {X : Cx} {dl : Dr} {W : WX}
theorem Sim.frzT {F0 H0 F H F' H' : Hp} {sg : L2.St} {G : Sls} {i : Nat} {t : T} {v : V} {fp : Nat → List Addr} (S : Sim X.K X.mg dl F0 H0 F H sg G) (ei : G[i]? = some (some (.tree t))) (T1 : TrOk X.K X.mg dl H0 F H sg G fp) (es : sg[i]? = some (some v)) (sm : Same F F')
    (off : ∀ x, x ∉ fp i → H' x = H x ∧ F' x = F x) (rp : Rep X.K X.mg dl F' t.data v) : Sim X.K X.mg dl F0 H0 F' H' sg (G.set i (some (.fz t.data))) := by
  obtain ⟨v', q1, q2, q3, q4⟩ := T1.at_ i t ei
  have hil : i < G.length := (List.getElem?_eq_some_iff.mp ei).1
  have old : ∀ (j : Nat) (w : Sl), (G.set i (some (.fz t.data)))[j]? = some (some w) → (i = j ∧ w = .fz t.data) ∨ (i ≠ j ∧ G[j]? = some (some w)) := fun j w e => by
    by_cases z : i = j
    · subst z
      rw [List.getElem?_set_self hil] at e
      cases e
      exact .inl ⟨rfl, rfl⟩
    · rw [List.getElem?_set_ne z] at e
      exact .inr ⟨z, e⟩
  have offO : ∀ (j : Nat) (w : Sl) (c : Addr), G[j]? = some (some w) → w.isOwn = true → sg[j]? = some (some (.ref c)) → H' c = H c ∧ F' c = F c := fun j w c ej o ec => off c (T1.nx i j t w c ei ej o ec)
  refine ⟨by rw [List.length_set]; exact S.len, fun j w ej => ?_, fun j k w w' e1 e2 o1 o2 e3 => ?_, ⟨fun b o e => sm b o (S.st.fs b o e), fun b o nb eb => ?_, fun b o eb => ?_, fun b eb => ?_⟩, ?_⟩
  · rcases old j w ej with ⟨rfl, rfl⟩ | ⟨z, z2⟩
    · exact ⟨v, es, rp⟩
    obtain ⟨x, k1, k2⟩ := S.sl j w z2
    refine ⟨x, k1, ?_⟩
    cases w with
    | fz d => exact Rep.mono sm d x k2
    | own es' =>
      obtain ⟨c, ws, rfl, y2, y3, y4, y5, y6, y7⟩ := k2
      exact ⟨c, ws, rfl, by rw [(offO j _ c z2 rfl k1).1]; exact y2, by rw [(offO j _ c z2 rfl k1).2]; exact y3, y4, y5, y6, RepL.mono sm _ _ y7⟩
    | ini cc nn es' =>
      obtain ⟨c, dx, C, ws, rfl, y2, y3, y4, y5, y6, y7, y8, y9, y10, y11, y12, y13⟩ := k2
      have od := off dx fun z => by
        obtain ⟨vs, q | ⟨k, q⟩⟩ := tr_node q2 dx z
        · rw [y4] at q; cases q
        · rw [y4] at q; cases k <;> cases q
      exact ⟨c, dx, C, ws, rfl, y2, by rw [(offO j _ c z2 rfl k1).1]; exact y3, by rw [od.1]; exact y4, by rw [(offO j _ c z2 rfl k1).2]; exact y5, by rw [od.2]; exact y6, y7, y8, y9, y10, y11, y12, RepL.mono sm _ _ y13⟩
    | ownX kk es' =>
      obtain ⟨c, ws, rfl, y2, y3, y4, y5, y6, y7, y8⟩ := k2
      exact ⟨c, ws, rfl, by rw [(offO j _ c z2 rfl k1).1]; exact y2, by rw [(offO j _ c z2 rfl k1).2]; exact y3, y4, y5, y6, y7, RepL.mono sm _ _ y8⟩
    | tree _ => trivial
  · rcases old j w e1 with ⟨rfl, rfl⟩ | ⟨z, z2⟩
    · cases o1
    rcases old k w' e2 with ⟨rfl, rfl⟩ | ⟨y, y2⟩
    · cases o2
    exact S.dis j k w w' z2 y2 o1 o2 e3
  · rw [(off b fun z => by
      have := (q4 b z).2.1
      rw [eb] at this
      cases this).1]
    exact S.st.hs b o nb eb
  · by_cases z : b ∈ fp i
    · exact .inr (q4 b z).2.1
    · rw [(off b z).2] at eb
      exact S.st.nw b o eb
  · by_cases z : b ∈ fp i
    · exact (q4 b z).2.1
    · rw [(off b z).1] at eb
      exact S.st.al b eb
  · refine ⟨fp, fun j w ej => ?_, fun j k w w' e1 e2 hjk a ha => ?_, fun j k w s' a e1 e2 o ea => ?_⟩
    · rcases old j _ ej with ⟨rfl, q⟩ | ⟨z, z2⟩
      · cases q
      obtain ⟨x, y1, y2, y3, y4⟩ := T1.at_ j w z2
      have dj : ∀ a ∈ fp j, a ∉ fp i := T1.dj j i w t z2 ei (Ne.symm z)
      exact ⟨x, y1, TR.mono sm w x _ (fun a ha => (off a (dj a ha)).1) y2, y3, fun a ha => ⟨by rw [(off a (dj a ha)).2]; exact (y4 a ha).1, (y4 a ha).2⟩⟩
    · rcases old j _ e1 with ⟨rfl, q⟩ | ⟨z, z2⟩
      · cases q
      rcases old k _ e2 with ⟨rfl, q⟩ | ⟨y, y2⟩
      · cases q
      exact T1.dj j k w w' z2 y2 hjk a ha
    · rcases old j _ e1 with ⟨rfl, q⟩ | ⟨z, z2⟩
      · cases q
      rcases old k _ e2 with ⟨rfl, q⟩ | ⟨y, y2⟩
      · subst q; cases o
      exact T1.nx j k w s' a z2 y2 o ea
def frzT (i : Nat) (G : Sls) : Sls := match treeAt G i with
  | some t => G.set i (some (.fz t.data))
  | none => G
def sFrzT (i : Nat) (f : SS) : SS := fun G => f (frzT i G)
end
end EK


namespace EK
open PySem PySem.Spec PyProof.Rows L2
section
variable (X : Cx) (dl : Dr)
def gDH (f : SG) : TG := fun v sg H Q => ∃ (F0 H0 F : Hp) (G : Sls) (s : DS) (d : D) (G' : Sls), Wd dl F H s ∧ Sim X.K X.mg dl F0 H0 F H sg G ∧ Rep X.K X.mg dl F d v ∧ f G d = some G' ∧
  ∀ H', Wd dl F H' s → Sim X.K X.mg dl F0 H0 F H' sg G' → Q sg H'
def gDHs (f : Sls → List D → Option Sls) : TGs := fun vs sg H Q => ∃ (F0 H0 F : Hp) (G : Sls) (s : DS) (ds : List D) (G' : Sls), Wd dl F H s ∧ Sim X.K X.mg dl F0 H0 F H sg G ∧ RepL X.K X.mg dl F ds vs ∧ f G ds = some G' ∧
  ∀ H', Wd dl F H' s → Sim X.K X.mg dl F0 H0 F H' sg G' → Q sg H'
abbrev DGH (tg : Expr) (f : SG) : Prop := PG X tg (gDH X dl f)
abbrev DGHs (tgs : List Expr) (f : Sls → List D → Option Sls) : Prop := PGs X tgs (gDHs X dl f)
end
def sgK (i : Nat) (k : Str) : SG := fun G d => (treeAt G i).bind fun t => (t.putK (.inr k) (.fz d)).map fun t' => G.set i (some (.tree t'))
section
variable {X : Cx} {dl : Dr} {W : WX} {pos p q2 : Pos} {e : Expr} {es : List Expr} {f : SE}
def sgKs0 : Sls → List D → Option Sls := fun G ds => match ds with
  | [] => some G
  | _ => none
def sgKsC (f : SG) (r : Sls → List D → Option Sls) : Sls → List D → Option Sls := fun G ds => match ds with
  | d :: ds => (f G d).bind fun G' => r G' ds
  | [] => none
def sgTT (l : List SG) : SG := fun G d => (itemsT d).bind fun ds => (l.foldr sgKsC sgKs0) G ds
end
abbrev SNT := Sls → M T
section
variable (X : Cx) (dl : Dr) (W : WX)
def GoNT (F0 H0 : Hp) (r : Option (Res T × DS)) (E : Ends) : Prop := match r with
  | none => False
  | some (.ok t, s') => ∀ F' H' v, Step dl F0 H0 F' H' → Wd dl F' H' s' → NewT X dl H0 t F' H' v → E.rt v H'
  | some (.err x, s') => ∀ F' H' sg' cls d, Step dl F0 H0 F' H' → Wd dl F' H' s' → ExRep X.mg X.K dl F' H' x cls d → W cls d sg' H'
def tSNT (f : SNT) : TS := fun E sg H => ∃ (F0 H0 F : Hp) (G : Sls) (s : DS), Wd dl F H s ∧ Sim X.K X.mg dl F0 H0 F H sg G ∧ GoNT X dl W F0 H0 (f G s) E
abbrev DSNT (st : List Stmt) (f : SNT) : Prop := PSs X st (tSNT X dl W f)
end
section
variable {X : Cx} {dl : Dr} {W : WX} {pos p : Pos}
def sSeqT (f : SS) (g : SNT) : SNT := fun G => bnd (f G) fun o => match o with
  | .next G' => g G'
  | _ => fail
/-- return x, x the def's own tree -/
def gTreeV (i : Nat) : SNT := fun G => ofO (treeAt G i)
end
def spT (K : PySem.W.Frag) (mg : Str → Option Value) (n : Nat) (m : List D → M T) : Sp := fun vs H Q E => vs.length = n ∧ ∃ (dl : Dr) (F : Hp) (ds : List D) (s : DS), Wd dl F H s ∧ RepL K mg dl F ds vs ∧
  Go mg K dl E F H (m ds s) fun t _ F' H' => ∀ v, (∃ as, TR K mg dl F' H' t v as ∧ as.Nodup ∧ ∀ a ∈ as, H a = none ∧ F' a = none) → Q v H'
def runT (n : Nat) (b : SNT) (ds : List D) : M T := b (startG n ds)
structure DFnT (P : Program) (w : World) (K : PySem.W.Frag) (mg : Str → Option Value) (base : Heap) (x : Str) (k n : Nat) (m : List D → M T) : Prop where
  ex : ∃ (f : Addr) (fd : FuncData) (ps : List Str), mg x = some (.ref f) ∧ PySem.W.keepIn K (.ref f) = true ∧ ps.length = n ∧ Binds K fd ps [] ∧ FnOk P w K mg base (L2.CX P w) k f fd ps (spT K mg n m)
section
variable {X : Cx} {dl : Dr} {W : WX} {pos p : Pos} {x : Str} {e : Expr} {es : List Expr} {ra : SA} {k n : Nat} {m : List D → M T}
def gCallT (n : Nat) (m : List D → M T) (ra : SA) : STr := fun G => bnd (ra G) fun ds => if ds.length = n then m ds else fail
end
section
variable {X : Cx} {dl : Dr} {W : WX} {pos p : Pos} {e : Expr} {es : List Expr}
def trs0 : STs := fun _ => ret []
def trsC (f : STr) (r : STs) : STs := fun G => bnd (f G) fun t => bnd (r G) fun ts => ret (t :: ts)
def trL (r : STs) : STr := fun G => bnd (r G) fun ts => ofO (if ts.length ≤ sizeLine then some (.lst ts) else none)
end
end EK


namespace EK
open PySem PySem.Spec PyProof.Rows L2
section
variable {X : Cx} {dl : Dr} {W : WX} {pos p : Pos} {e : Expr} {es : List Expr} {F0 H0 F H F1 H1 : Hp} {E : Ends}
/-- an item of a list of a tree, counted from the front -/
def T.ixOf (n : T) (k : D) : Option Nat := match n, k with
  | .lst ts, .int (.ofNat j) => if j < ts.length then some j else none
  | .dct (.u _) ts, .int (.ofNat j) => if j < ts.length then some j else none
  | _, _ => none
def gTI (i : Nat) (fp : SPth) (fk : SE) : SPth := fun G => bnd (fp G) fun p => bnd (fk G) fun k => bnd (ofO (treeAt G i)) fun t => bnd (ofO (t.at p)) fun n => bnd (ofO (n.ixOf k)) fun j => ret (p ++ [j])
theorem atI_ofNat {α : Type} {xs : List α} {j : Nat} (h : j < xs.length) : atI xs (Int.ofNat j) = some xs[j] := by
  unfold atI ixN
  rw [if_pos (by simp), if_pos (by simp; omega), Option.bind_some]
  simp [List.getElem?_eq_getElem h]
def OK.isU : OK → Bool
  | .u _ => true
  | _ => false
mutual
def T.flat : T → Bool
  | .fz _ => true
  | .lst ts => T.flats ts
  | .dct k ts => k.isU && T.flats ts
def T.flats : List T → Bool
  | [] => true
  | t :: ts => t.flat && T.flats ts
end
/-- what is known without the addresses of as -/
def dropF (F : Hp) (as : List Addr) : Hp := fun a => if a ∈ as then none else F a
/-- the test u, which may look at the tree of slot i as a whole -/
def lendT (i : Nat) (u : ST) : ST := fun G => match treeAt G i with
  | some t => if t.flat = true then noErr (u (G.set i (some (.fz t.data)))) else fail
  | none => fail
end
end EK


namespace EK
open PySem PySem.Spec PyProof.Rows L2
def sortKeyO (m : List D → M D) : List D → M (List D)
  | [.lst xs] => bnd (mapMM (fun d => noErr (m [d])) xs) fun ks => if canSort ks then ret (sortKL xs ks) else fail
  | _ => fail
section
variable {X : Cx} {dl : Dr} {W : WX}
def rKeyO (X : Cx) (dl : Dr) (f : Addr) (m : List D → M D) : List V → List V → Hp → VK → Prop := fun xs zs H Q => zs = [.ref f] ∧ ∃ (F : Hp) (st : DS) (ds : List D), Wd dl F H st ∧ RepL X.K X.mg dl F ds xs ∧ Go X.mg X.K dl (fun _ _ _ => False) F H (sortKeyO m ds st) fun es _ F' H' => ∀ a, NewL X dl H es F' H' a → Q (.ref a) H'
def gSortKO (m : List D → M D) (fa : SA) : SA := fun G => bnd (fa G) fun ds => noErr (sortKeyO m ds)
variable {p pf pos kpos : Pos} {fn x : Str} {e : Expr} {es : List Expr} {ra : SA} {k : Nat} {m : List D → M D} {f : SE} {F0 H0 F H : Hp} {E : Ends}
def slT (f : STr) : Sls → M Sl := fun G => bnd (f G) fun t => ret (.tree t)
def lstOf : D → Option (List D)
  | .lst xs => some xs
  | _ => none
def sExt (i : Nat) (f : SE) : SS := fun G => match G[i]? with
  | some (some (.own ds)) => bnd (f G) fun d => bnd (ofO (lstOf d)) fun es => if ds.length + es.length ≤ sizeLine then ret (.next (G.set i (some (.own (ds ++ es))))) else fail
  | _ => fail
end
end EK


namespace EK
open PySem PySem.Spec PyProof.Rows L2
section
variable {X : Cx} {dl : Dr} {W : WX}
def sFrzN (i : Nat) (g : SN) : SN := fun G => g (frz i G)
def sFrzU (i : Nat) (g : SNT) : SNT := fun G => g (frz i G)
end
end EK


namespace EK
open PySem PySem.Spec PyProof.Rows L2
section
variable {X : Cx} {dl : Dr} {W : WX} {e : Expr}
/-- the expression f, which may look at the own list of slot i as a whole -/
def lendO (i : Nat) (f : SE) : SE := fun G => match G[i]? with
  | some (some (.own _)) => noErr (bnd (f (frz i G)) fun d => if flatD d = true then ret d else fail)
  | _ => fail
end
end EK


namespace EK
open PySem PySem.Spec PyProof.Rows L2
section
variable {P : Program} {w : World}
abbrev NoCls (P : Program) (w : World) (n : Nat) (v : Value) (s : Shared) : Prop := ∀ (A : Around) (E : Value → Shared → Prop) (Q : Bool → Shared → Prop), Q false s → wpAny (model P w) A (ofAClassStatement n v) Q E s
abbrev SomeVal (P : Program) (w : World) (n : Nat) (v : Value) (s : Shared) : Prop := ∀ (A : Around) (E : Value → Shared → Prop) (Q : Bool → Shared → Prop), (∀ b, Q b s) → wpAny (model P w) A (hashByValue n v) Q E s
end
end EK


namespace EK
open PySem PySem.Spec PyProof.Rows L2
section
variable {P : Program} {w : World} {κ : Type} [DecidableEq κ]
/-- what a kind of tuples gives for standing in sets -/
structure InSets (knd : HeapKind P w κ) : Prop where
  st : knd.Stays
  cls : ∀ {s : Shared} {k : κ} {a : Addr}, knd.is s.heap k a → NoCls P w 8 (.ref a) s
  val : ∀ {s : Shared} {k : κ} {a : Addr}, knd.is s.heap k a → SomeVal P w 8 (.ref a) s
variable {knd : HeapKind P w κ} (I : InSets knd) {A : Around} {E : Value → Shared → Prop} {s : Shared}
include I
omit I
variable (knd) in
def rowsK (L : List (Addr × κ)) : List (Int × Value) := L.map fun p => (knd.hash p.2, Value.ref p.1)
variable (knd) in
/-- the set at a has the tuples L -/
structure TSet (h : Heap) (a : Addr) (L : List (Addr × κ)) (es : Array (Int × Value)) (ep : Nat) (t : SetTable) : Prop where
  ob : ∃ o, h.get? a = some o ∧ o.ExactSet ∧ o.data = .set es ep t
  rw_ : es.toList = rowsK knd L
  tab : TabOk t (L.map fun p => knd.hash p.2)
  nd : (L.map (·.2)).Nodup
  el : ∀ p ∈ L, knd.is h p.2 p.1
  led : w.params.followText "set-order" = true ∨ t.led = true
  room : L.length * 5 < t.mask * 3
  few : L.length < 64
variable {a : Addr} {L : List (Addr × κ)} {es : Array (Int × Value)} {ep : Nat} {t : SetTable}
theorem rowsK_len {L : List (Addr × κ)} {es : Array (Int × Value)} (e : es.toList = rowsK knd L) : es.size = L.length := by
  have q := congrArg List.length e
  rw [rowsK, Array.length_toList, List.length_map] at q
  exact q
theorem fits_of {hs : List Int} (T : TabOk t hs) {n : Nat} (hn : n = hs.length) (hm : n ≤ t.mask) : t.fits n = true := by
  have q := T.sz
  unfold SetTable.fits SetTable.fill
  rw [T.dm, Bool.and_eq_true, beq_iff_eq, decide_eq_true_eq]
  show t.place.size = n ∧ t.place.size + 0 ≤ t.mask
  omega
theorem TSet.fits (R : TSet knd s.heap a L es ep t) : t.fits es.size = true := fits_of R.tab (by rw [rowsK_len R.rw_, List.length_map]) (by have := rowsK_len R.rw_; have := R.room; omega)
abbrev prb (t : SetTable) (h : Int) (c : Nat) : SetTable.Probe := nth t.mask (runAt t.mask (SetTable.bits h % (t.mask + 1)) (SetTable.bits h)) c
include I
omit I
include I
end
end EK


namespace EK
open PySem PySem.Spec PyProof.Rows L2
section
variable {P : Program} {w : World} {κ : Type} [DecidableEq κ] {knd : HeapKind P w κ} (I : InSets knd) {A : Around} {E : Value → Shared → Prop} {s : Shared}
/-- the set L has what the items ps bring, each once -/
def HasK (ps L : List (Addr × κ)) : Prop := (∀ p ∈ L, p ∈ ps) ∧ (L.map (·.2)).Perm (dedupK (ps.map (·.2)))
def HasAt (ps : List (Addr × κ)) (i : Nat) (L : List (Addr × κ)) : Prop := (∀ p ∈ L, p ∈ ps) ∧ (L.map (·.2)).Perm (dedupK ((ps.take i).map (·.2))) ∧ L.length ≤ i
theorem HasAt.next {ps L L1 : List (Addr × κ)} {i : Nat} {p : Addr × κ} (h : HasAt ps i L) (hp : ps[i]? = some p) (c1 : p.2 ∈ L.map (·.2) → L1 = L) (c2 : p.2 ∉ L.map (·.2) → L1.Perm (p :: L)) : HasAt ps (i + 1) L1 := by
  obtain ⟨h1, h2, h3⟩ := h
  have e : dedupK ((ps.take (i + 1)).map (·.2)) = addK (dedupK ((ps.take i).map (·.2))) p.2 := by
    rw [List.take_add_one, hp]
    unfold dedupK
    rw [Option.toList_some, List.map_append, List.foldl_append]
    rfl
  by_cases c : p.2 ∈ L.map (·.2)
  · rw [c1 c]
    refine ⟨h1, ?_, by omega⟩
    rw [e, addK, if_pos (h2.mem_iff.mp c)]
    exact h2
  · have q := c2 c
    refine ⟨fun r hr => ?_, ?_, by rw [q.length_eq, List.length_cons]; omega⟩
    · rcases List.mem_cons.mp (q.mem_iff.mp hr) with z | z
      · rw [z]; exact List.mem_of_getElem? hp
      · exact h1 r z
    · rw [e, addK, if_neg fun z => c (h2.mem_iff.mpr z)]
      exact ((q.map (·.2)).trans (List.Perm.cons _ h2)).trans (List.perm_append_singleton _ _).symm
theorem TSet.keep {h h' : Heap} {a : Addr} {L : List (Addr × κ)} {es : Array (Int × Value)} {ep : Nat} {t : SetTable} (R : TSet knd h a L es ep t) (ha : ∀ o, h.get? a = some o → h'.get? a = some o) (ht : ∀ p ∈ L, knd.is h' p.2 p.1) : TSet knd h' a L es ep t := by
  obtain ⟨o, ho, r⟩ := R.ob
  exact ⟨⟨o, ha o ho, r⟩, R.rw_, R.tab, R.nd, ht, R.led, R.room, R.few⟩
include I
variable {a : Addr}
end
end EK


namespace EK
open PySem PySem.Spec PyProof.Rows L2
mutual
def nkD : D → Option NestedKey
  | .int i => some (.num i)
  | .str x => some (.text x)
  | .tup ds => (nkDs ds).map .tup
  | _ => none
def nkDs : List D → Option (List NestedKey)
  | [] => some []
  | d :: ds => (nkD d).bind fun k => (nkDs ds).map fun ks => k :: ks
end
mutual
def kD : NestedKey → D
  | .none => .non
  | .num i => .int i
  | .text x => .str x
  | .tup ks => .tup (kDs ks)
def kDs : List NestedKey → List D
  | [] => []
  | k :: ks => kD k :: kDs ks
end
def isTupK : NestedKey → Bool
  | .tup _ => true
  | _ => false
def injK (ks : List NestedKey) : Bool := ks.all fun a => ks.all fun b => !decide (PySem.W.keyToks a.data = PySem.W.keyToks b.data) || decide (a = b)
/-- sorted(set(xs)) -/
def sortedSetD (d : D) : Option D := (itemsTL d).bind fun xs => (nkDs xs).bind fun ks =>
  if (decide (ks.length < 64) && (ks.all fun k => isTupK k && decide (k.depth ≤ 8)) && injK ks && canSort ((dedupK ks).map kD)) = true then some (.lst (sortL ((dedupK ks).map kD))) else none
section
variable {prog : Program} {w : World} {A : Around} {E : Value → Shared → Prop} {s : Shared}
end
section
variable {X : Cx} {dl : Dr} {W : WX}
end
end EK


namespace EK
open PySem PySem.Spec PyProof.Rows L2
section
open PySem.SeqAt
open AutoSeq1 (wpAny_loadPart')
open MeetsSeq MeetsSeq2 MeetsSeq3
end
section
variable {X : Cx} {dl : Dr}
/-- !=, a dict beside a tuple among them -/
def neX (x y : D) : Option D := match x, y with
  | .dct _ _, .tup _ => some (.bl true)
  | x, y => neD x y
end
end EK


namespace EK
open PySem PySem.Spec PyProof.Rows L2
mutual
/-- data of texts, numbers and tuples alone -/
def tupsD : D → Bool
  | .non => true
  | .bl _ => true
  | .int _ => true
  | .str _ => true
  | .tup ds => tupsDs ds
  | _ => false
def tupsDs : List D → Bool
  | [] => true
  | d :: ds => tupsD d && tupsDs ds
end
section
variable {X : Cx} {dl : Dr} {W : WX} {e : Expr} {f : SA} {pos : Pos}
def sExtO (i : Nat) (f : SA) : SS := fun G => match G[i]? with
  | some (some (.own ds)) => bnd (noErr (f (frz i G))) fun es => if (tupsDs es && decide (ds.length + es.length ≤ sizeLine)) = true then ret (.next (G.set i (some (.own (ds ++ es))))) else fail
  | _ => fail
end
end EK


namespace EK
open PySem PySem.Spec PyProof.Rows L2
section
variable (X : Cx) (dl : Dr) (W : WX)
/-- x.append(e) as an expression, x the own list of slot i -/
def tApp (i : Nat) (f : SE) : TE := fun sg H Q => ∃ (F F0 H0 : Hp) (G : Sls) (s : DS) (ds : List D), Wd dl F H s ∧ Sim X.K X.mg dl F0 H0 F H sg G ∧ G[i]? = some (some (.own ds)) ∧
  Go X.mg X.K dl (fun c d H' => W c d sg H') F H (f G s) fun d s1 F1 H1 => ∀ v a us, Rep X.K X.mg dl F1 d v → sg[i]? = some (some (.ref a)) → H1 a = some (.lst us) → RepL X.K X.mg dl F1 ds us → us.length < sizeLine ∧ Q .non (upd H1 a (.lst (us ++ [v])))
end
section
variable {X : Cx} {dl : Dr} {W : WX} {e : Expr} {f : SE} {pos : Pos}
/-- y = caught(lambda: x.append(e)): i the slot of y, j that of x -/
def sCaughtApp (i j : Nat) (kx : List Str) (f : SE) : SS := fun G => match G[j]? with
  | some (some (.own ds)) => fun s => match f G s with
    | none => none
    | some (.ok d, s') => if ds.length < sizeLine then some (.ok (.next ((G.set j (some (.own (ds ++ [d])))).set i (some (.fz .non)))), s') else none
    | some (.err x, s') => if kx.contains x.cls then some (.ok (.next (G.set i (some (.fz (.exc x.cls x.ns x.xs))))), s') else none
  | _ => fail
end
end EK


namespace EK
open PySem PySem.Spec PyProof.Rows L2
def boolsD : D → Option (List Bool)
  | .lst ds => bools ds
  | _ => none
def asBl : D → Option Bool
  | .bl k => some k
  | _ => none
def gCnt (fa fb : SE) : SE := fun G => bnd (fa G) fun x => bnd (ofO (boolsD x)) fun bs => bnd (fb G) fun y => ofO ((asBl y).map fun k => .int ((bs.count k : Nat) : Int))
def gIdx (fa fb : SE) : SE := fun G => bnd (fa G) fun x => bnd (ofO (boolsD x)) fun bs => bnd (fb G) fun y => ofO ((asBl y).bind fun k => if k ∈ bs then some (.int ((bs.idxOf k : Nat) : Int)) else none)
section
variable {X : Cx}
variable {dl : Dr} {W : WX} {o e : Expr} {fa fb : SE} {apos pos : Pos}
end
end EK


namespace EK
open PySem PySem.Spec PyProof.Rows L2
section
variable (X : Cx) (dl : Dr)
def gDM (f : SG) : TG := fun v sg H Q => ∃ (F0 H0 F : Hp) (G : Sls) (s : DS) (d : D) (G' : Sls), Wd dl F H s ∧ Sim X.K X.mg dl F0 H0 F H sg G ∧ Rep X.K X.mg dl F d v ∧ f G d = some G' ∧
  ∀ H' sg', Wd dl F H' s → Sim X.K X.mg dl F0 H0 F H' sg' G' → Q sg' H'
def gDMs (f : Sls → List D → Option Sls) : TGs := fun vs sg H Q => ∃ (F0 H0 F : Hp) (G : Sls) (s : DS) (ds : List D) (G' : Sls), Wd dl F H s ∧ Sim X.K X.mg dl F0 H0 F H sg G ∧ RepL X.K X.mg dl F ds vs ∧ f G ds = some G' ∧
  ∀ H' sg', Wd dl F H' s → Sim X.K X.mg dl F0 H0 F H' sg' G' → Q sg' H'
abbrev DGM (tg : Expr) (f : SG) : Prop := PG X tg (gDM X dl f)
abbrev DGMs (tgs : List Expr) (f : Sls → List D → Option Sls) : Prop := PGs X tgs (gDMs X dl f)
end
/-- item j of the own list of slot i -/
def sgO (i j : Nat) : SG := fun G d => (ownAt G i).bind fun ds => if j < ds.length then some (G.set i (some (.own (ds.set j d)))) else none
section
variable {X : Cx} {dl : Dr} {W : WX} {pos p q2 : Pos} {e : Expr} {es : List Expr} {f : SE}
end
end EK


namespace EK
open PySem PySem.Spec PyProof.Rows L2
section
variable {X : Cx} {dl : Dr} {W : WX} {pos p : Pos} {e : Expr} {es : List Expr}
def trU (r : STs) : STr := fun G => bnd (r G) fun ts => ofO (if ts.length ≤ 1000 then some (.dct (.u ts.length) ts) else none)
end
end EK


namespace EK
open PySem PySem.Spec PyProof.Rows L2
section
variable {X : Cx} {dl : Dr} {W : WX} {pos p : Pos}
def sSeqR (f : SS) (g : SNT) : SNT := fun G => bnd (f G) fun o => match o with
  | .next G' => g G'
  | .ret d => ret (.fz d)
  | _ => fail
end
end EK


namespace K05
open PySem PySem.Spec PyProof.Rows L2 EK
theorem cb_law_caught : ∃ j q1 q2 q3 p1 p2 p3 p4 p5 p6 p7 p8 p9 r1 r2, defBody s_law_caught = caughtBody "_law_job" "_law_caught_here" "_law_error" "KeepError" j q1 q2 q3 p1 p2 p3 p4 p5 p6 p7 p8 p9 r1 r2 := ⟨_, _, _, _, _, _, _, _, _, _, _, _, _, _, _, rfl⟩
theorem xt_BadHand : ExcT P xd_BadHand := ⟨by kernel_rfl, beq_self_eq_true _, ⟨_, _, _, _, _, _, _, _, _, _, _, _, rfl, fun _ _ _ _ => ⟨⟨_, rfl⟩, rfl, rfl⟩⟩, fun _ _ _ _ _ _ _ _ _ _ _ => .of_eq (by kernel_rfl), ⟨_, rfl, rfl⟩, ⟨by decide +kernel, rfl, rfl, rfl, rfl, rfl, rfl, rfl, by decide +kernel, by decide +kernel⟩⟩
theorem xt_BadLeft : ExcT P xd_BadLeft := ⟨by kernel_rfl, beq_self_eq_true _, ⟨_, _, _, _, _, _, _, _, _, _, _, _, rfl, fun _ _ _ _ => ⟨⟨_, rfl⟩, rfl, rfl⟩⟩, fun _ _ _ _ _ _ _ _ _ _ _ => .of_eq (by kernel_rfl), ⟨_, rfl, rfl⟩, ⟨by decide +kernel, rfl, rfl, rfl, rfl, rfl, rfl, rfl, by decide +kernel, by decide +kernel⟩⟩
end K05


namespace EK
open PySem PySem.Spec PyProof.Rows L2

theorem bnd_id {α : Type} (m : M α) : bnd m ret = m := by
  funext s
  unfold bnd
  cases m s with
  | none => rfl
  | some p => obtain ⟨r, s'⟩ := p; cases r <;> rfl
theorem bnd_congr {α β : Type} {m : M α} {k k' : α → M β} (h : ∀ a, k a = k' a) : bnd m k = bnd m k' := by rw [funext h]

def lcB (f : SG) (u : ST) (h : SE) (G : Sls) (d : D) : M (Option D) := bnd (ofO (f G d)) fun G' => bnd (u G') fun k => if k then bnd (h G') fun y => ret (some y) else ret none
def optC : Option D → List D → List D
  | some y, r => y :: r
  | none, r => r
theorem lcM_cons {f : SG} {u : ST} {h : SE} {G : Sls} {d : D} {ds : List D} : lcM f u h G (d :: ds) = bnd (lcB f u h G d) fun o => bnd (lcM f u h G ds) fun r => ret (optC o r) := by
  rw [lcM]
  unfold lcB
  rw [bnd_assoc]
  refine bnd_congr fun G' => ?_
  rw [bnd_assoc]
  refine bnd_congr fun k => ?_
  cases k with
  | false => exact (bnd_id _).symm
  | true => simp only [if_true, bnd_assoc]; rfl
theorem lcM_pure {α : Type} (enc : α → D) (r : α → Option D) {f : SG} {u : ST} {h : SE} {G : Sls} : ∀ (xs : List α), (∀ x ∈ xs, lcB f u h G (enc x) = ret (r x)) → lcM f u h G (xs.map enc) = ret (xs.filterMap r)
  | [], _ => rfl
  | x :: xs, H => by
    rw [List.map_cons, lcM_cons, H x (.head _), bnd_ret, lcM_pure enc r xs fun y hy => H y (.tail _ hy), bnd_ret, List.filterMap_cons]
    cases r x <;> rfl
/-- every item gives one -/
theorem lcM_map {α : Type} (enc : α → D) (r : α → D) {f : SG} {u : ST} {h : SE} {G : Sls} (xs : List α) (H : ∀ x ∈ xs, lcB f u h G (enc x) = ret (some (r x))) : lcM f u h G (xs.map enc) = ret (xs.map r) := by
  rw [lcM_pure enc (fun x => some (r x)) xs H, List.filterMap_eq_map']
/-- some items are left out -/
theorem lcM_filter {α : Type} (enc : α → D) (p : α → Bool) {f : SG} {u : ST} {h : SE} {G : Sls} (xs : List α) (H : ∀ x ∈ xs, lcB f u h G (enc x) = ret (if p x then some (enc x) else none)) : lcM f u h G (xs.map enc) = ret ((xs.filter p).map enc) := by
  rw [lcM_pure enc (fun x => if p x then some (enc x) else none) xs H]
  congr 1
  clear H
  induction xs with
  | nil => rfl
  | cons x xs ih =>
    rw [List.filterMap_cons, List.filter_cons]
    cases p x
    · simpa using ih
    · simpa using ih

theorem forM_pre {α : Type} (enc : α → D) (I : List α → Sls → Prop) {a : SG} {b : SS} {xs : List α} {G : Sls} (h0 : I [] G)
    (H : ∀ p x r, xs = p ++ x :: r → ∀ G, I p G → ∃ G1 G2, a G (enc x) = some G1 ∧ b G1 = ret (.next G2) ∧ I (p ++ [x]) G2) : ∃ G', forM a b (xs.map enc) G = ret (.next G') ∧ I xs G' := by
  have go : ∀ (r p : List α) (G : Sls), xs = p ++ r → I p G → ∃ G', forM a b (r.map enc) G = ret (.next G') ∧ I xs G' := by
    intro r
    induction r with
    | nil => intro p G e i; exact ⟨G, rfl, by rw [e, List.append_nil]; exact i⟩
    | cons x r ih =>
      intro p G e i
      obtain ⟨G1, G2, h1, h2, h3⟩ := H p x r e G i
      obtain ⟨G', e2, j⟩ := ih (p ++ [x]) G2 (by rw [e]; simp) h3
      refine ⟨G', ?_, j⟩
      rw [List.map_cons, forM, h1, ofO_some, bnd_ret, h2, bnd_ret]
      exact e2
  exact go xs [] G rfl h0
theorem forM_bnd {α β : Type} (enc : α → D) (I : List α → Sls → Prop) {a : SG} {b : SS} {xs : List α} {G : Sls} {k : Out → M β} {R : M β} (h0 : I [] G)
    (H : ∀ p x r, xs = p ++ x :: r → ∀ G, I p G → ∃ G1 G2, a G (enc x) = some G1 ∧ b G1 = ret (.next G2) ∧ I (p ++ [x]) G2) (hk : ∀ G', I xs G' → k (.next G') = R) : bnd (forM a b (xs.map enc) G) k = R := by
  obtain ⟨G', e, i⟩ := forM_pre enc I h0 H
  rw [e, bnd_ret]
  exact hk G' i

def LIM : Int := 1099511627776
structure OkS (s : DS) : Prop where
  w : ∀ x ∈ s.wide, 0 ≤ x
  c : ∀ x ∈ s.cells, 0 ≤ x ∧ x < 2147483647
  r : 0 ≤ s.rest
  t : 0 ≤ s.turn
def Tr {α : Type} (n : Nat) (m : M α) (P : α → Prop) : Prop := ∀ s, OkS s → s.turn + n ≤ LIM → ∃ a s', m s = some (.ok a, s') ∧ OkS s' ∧ s'.turn ≤ s.turn + n ∧ P a
theorem Tr.ret {α : Type} {a : α} {P : α → Prop} (h : P a) : Tr 0 (EK.ret a) P := fun s o _ => ⟨a, s, rfl, o, by omega, h⟩
theorem Tr.bnd {α β : Type} {m : M α} {k : α → M β} {P : α → Prop} {Q : β → Prop} {i j : Nat} (h : Tr i m P) (H : ∀ a, P a → Tr j (k a) Q) : Tr (i + j) (EK.bnd m k) Q := fun s o l => by
  obtain ⟨a, s1, e1, o1, t1, p⟩ := h s o (by push_cast at l; omega)
  obtain ⟨b, s2, e2, o2, t2, q⟩ := H a p s1 o1 (by push_cast at l; omega)
  refine ⟨b, s2, ?_, o2, by push_cast; omega, q⟩
  unfold EK.bnd
  rw [e1]
  exact e2
theorem Tr.mono {α : Type} {m : M α} {P Q : α → Prop} {i j : Nat} (h : Tr i m P) (l : i ≤ j) (H : ∀ a, P a → Q a) : Tr j m Q := fun s o k => by
  obtain ⟨a, s1, e1, o1, t1, p⟩ := h s o (by omega)
  exact ⟨a, s1, e1, o1, by omega, H a p⟩
theorem Tr.le {α : Type} {m : M α} {P : α → Prop} {i j : Nat} (h : Tr i m P) (l : i ≤ j) : Tr j m P := h.mono l fun _ p => p
theorem Tr.imp {α : Type} {m : M α} {P Q : α → Prop} {i : Nat} (h : Tr i m P) (H : ∀ a, P a → Q a) : Tr i m Q := h.mono (Nat.le_refl _) H
theorem Tr.noErr {α : Type} {m : M α} {P : α → Prop} {i : Nat} (h : Tr i m P) : Tr i (EK.noErr m) P := fun s o l => by
  obtain ⟨a, s1, e1, o1, t1, p⟩ := h s o l
  refine ⟨a, s1, ?_, o1, t1, p⟩
  unfold EK.noErr
  rw [e1]
theorem Tr.eq {α : Type} {m : M α} {a : α} {P : α → Prop} (e : m = EK.ret a) (h : P a) : Tr 0 m P := by rw [e]; exact Tr.ret h
/-- a loop that draws -/
theorem Tr.forI {α : Type} (n : Nat) (enc : α → D) (I : Nat → Sls → Prop) (N : Nat) {a : SG} {b : SS} : ∀ (xs : List α) (i : Nat) (G : Sls), i + xs.length ≤ N → I i G →
    (∀ i G x, x ∈ xs → i < N → I i G → ∃ G1, a G (enc x) = some G1 ∧ Tr n (b G1) fun o => ∃ G2, o = .next G2 ∧ I (i + 1) G2) →
    Tr (n * xs.length) (forM a b (xs.map enc) G) fun o => ∃ G', o = .next G' ∧ I (i + xs.length) G'
  | [], i, G, _, h, _ => Tr.ret ⟨G, rfl, h⟩
  | x :: xs, i, G, hN, h, H => by
    rw [List.length_cons] at hN
    obtain ⟨G1, e1, t⟩ := H i G x (.head _) (by omega) h
    rw [List.map_cons, forM, e1, ofO_some, bnd_ret]
    refine Tr.le (Tr.bnd t fun o ⟨G2, e2, j⟩ => ?_) (show n + n * xs.length ≤ _ by rw [List.length_cons, Nat.mul_succ]; omega)
    subst e2
    refine (Tr.forI n enc I N xs (i + 1) G2 (by omega) j fun i G y hy => H i G y (.tail _ hy)).imp fun o ⟨G', e, k⟩ => ⟨G', e, ?_⟩
    rw [List.length_cons, Nat.add_comm xs.length 1, ← Nat.add_assoc]
    exact k
theorem sl0 : (0 ≤ PySem.sizeLine) = True := by unfold PySem.sizeLine; simp
theorem sl1 : (1 ≤ PySem.sizeLine) = True := by unfold PySem.sizeLine; simp
theorem sl2 : (2 ≤ PySem.sizeLine) = True := by unfold PySem.sizeLine; simp
theorem sl3 : (3 ≤ PySem.sizeLine) = True := by unfold PySem.sizeLine; simp
theorem sl4 : (4 ≤ PySem.sizeLine) = True := by unfold PySem.sizeLine; simp
theorem sl5 : (5 ≤ PySem.sizeLine) = True := by unfold PySem.sizeLine; simp
theorem sl6 : (6 ≤ PySem.sizeLine) = True := by unfold PySem.sizeLine; simp
theorem sl7 : (7 ≤ PySem.sizeLine) = True := by unfold PySem.sizeLine; simp
theorem sl8 : (8 ≤ PySem.sizeLine) = True := by unfold PySem.sizeLine; simp
theorem sl9 : (9 ≤ PySem.sizeLine) = True := by unfold PySem.sizeLine; simp
theorem sl10 : (10 ≤ PySem.sizeLine) = True := by unfold PySem.sizeLine; simp
theorem sl11 : (11 ≤ PySem.sizeLine) = True := by unfold PySem.sizeLine; simp
theorem sl12 : (12 ≤ PySem.sizeLine) = True := by unfold PySem.sizeLine; simp
theorem sl13 : (13 ≤ PySem.sizeLine) = True := by unfold PySem.sizeLine; simp
theorem itemsOf_lst (xs : List D) : itemsOf (.lst xs) = some xs := rfl
theorem itemsOf_tup (xs : List D) : itemsOf (.tup xs) = some xs := rfl
theorem itemsTL_lst (xs : List D) : itemsTL (.lst xs) = some xs := rfl
theorem itemsTL_tup (xs : List D) : itemsTL (.tup xs) = some xs := rfl
theorem itemsT_tup (xs : List D) : itemsT (.tup xs) = some xs := rfl
theorem asB_bl (b : Bool) : asB (.bl b) = some b := rfl
theorem asI_int (b : Int) : asI (.int b) = some b := rfl
theorem tupleD_lst (xs : List D) : tupleD [.lst xs] = some (.tup xs) := rfl
theorem tupleD_tup (xs : List D) : tupleD [.tup xs] = some (.tup xs) := rfl
theorem listD_lst (xs : List D) : listD [.lst xs] = some (.lst xs) := rfl
theorem listD_tup (xs : List D) : listD [.tup xs] = some (.lst xs) := rfl
theorem lenD_tup (xs : List D) : lenD [.tup xs] = some (.int (xs.length : Int)) := rfl
theorem lenD_scr (xs : List Int) : lenD [.scr xs] = some (.int (xs.length : Int)) := rfl
theorem leI_int (i j : Int) : leI (.int i) (.int j) = some (.bl (decide (i ≤ j))) := rfl
theorem ltI_int (i j : Int) : ltI (.int i) (.int j) = some (.bl (decide (i < j))) := rfl
theorem gtI_int (i j : Int) : gtI (.int i) (.int j) = some (.bl (decide (j < i))) := rfl
theorem geI_int (i j : Int) : geI (.int i) (.int j) = some (.bl (decide (j ≤ i))) := rfl
theorem addD_int (i j : Int) : addD (.int i) (.int j) = some (.int (i + j)) := rfl
theorem subD_int (i j : Int) : subD (.int i) (.int j) = some (.int (i - j)) := rfl
theorem eqD_int (i j : Int) : eqD (.int i) (.int j) = some (.bl (decide (i = j))) := by
  have : PyData.eqv (.int i) (.int j) = decide (i = j) := by simp only [PyData.eqv]; rfl
  rw [← this]
  rfl
theorem neD_int (i j : Int) : neD (.int i) (.int j) = some (.bl (!decide (i = j))) := by
  have : PyData.eqv (.int i) (.int j) = decide (i = j) := by simp only [PyData.eqv]; rfl
  rw [← this]
  rfl
theorem eqD_bl (i j : Bool) : eqD (.bl i) (.bl j) = some (.bl (decide (i = j))) := by cases i <;> cases j <;> rfl
theorem neD_bl (i j : Bool) : neD (.bl i) (.bl j) = some (.bl (!decide (i = j))) := by cases i <;> cases j <;> rfl
theorem intD_int (i : Int) : intD [.int i] = some (.int i) := rfl
theorem isiD_tup (cs : List (Str × Bool)) (f : String → Option Bool) (xs : List D) : isiD cs f (.tup xs) = (f "tuple").map .bl := rfl
theorem isiD_str (cs : List (Str × Bool)) (f : String → Option Bool) (xs : Str) : isiD cs f (.str xs) = (f "str").map .bl := rfl
theorem isiD_int (cs : List (Str × Bool)) (f : String → Option Bool) (xs : Int) : isiD cs f (.int xs) = (f "int").map .bl := rfl
theorem sliceD_lst (lo hi : Option Int) (xs : List D) : sliceD lo hi (.lst xs) = some (.lst (cutL xs lo hi)) := rfl
theorem sliceD_tup (lo hi : Option Int) (xs : List D) : sliceD lo hi (.tup xs) = some (.tup (cutL xs lo hi)) := rfl
theorem cutL_from1 {α : Type} (xs : List α) : cutL xs (some 1) none = xs.drop 1 := by
  unfold cutL
  rw [HT.sIx_none, show HT.sIx xs.length 0 (some 1) = min 1 xs.length from HT.sIx_nat _ _ 1]
  cases xs with
  | nil => rfl
  | cons x xs => simp [List.take_of_length_le]
theorem cutL_to {α : Type} (xs : List α) (n : Nat) : cutL xs none (some (n : Int)) = xs.take n := by
  unfold cutL
  rw [HT.sIx_none, HT.sIx_nat]
  simp only [List.drop_zero, Nat.sub_zero]
  by_cases h : n ≤ xs.length
  · rw [Nat.min_eq_left h]
  · rw [Nat.min_eq_right (by omega), List.take_of_length_le (Nat.le_refl _), List.take_of_length_le (by omega)]
def catchM (kx : List Str) (m : M D) : M D := fun s => match m s with
  | none => none
  | some (.ok _, s') => some (.ok .non, s')
  | some (.err x, s') => if kx.contains x.cls then some (.ok (.exc x.cls x.ns x.xs), s') else none
theorem gCaught_def (kx : List Str) (f : SE) (G : Sls) : gCaught kx f G = catchM kx (f G) := rfl
theorem catchM_ret (kx : List Str) (d : D) : catchM kx (ret d) = ret .non := rfl
theorem catchM_throw (kx : List Str) (x : Exn) (h : kx.contains x.cls = true) : catchM kx (EK.throw x) = ret (.exc x.cls x.ns x.xs) := by
  funext s
  show (if kx.contains x.cls then _ else _) = _
  rw [h]
  rfl
theorem bnd_throw {α β : Type} (x : Exn) (k : α → M β) : bnd (EK.throw x) k = EK.throw x := rfl
end EK
local macro_rules
  | `(tactic| simp! [$xs,*]) => `(tactic| simp -implicitDefEqProofs only [EK.sThrow0, EK.sThrow1, EK.gCaught_def, EK.catchM_ret, EK.bnd_throw, EK.gCallK, EK.pickL, List.filterMap_cons, List.filterMap_nil, EK.runB, EK.startG, EK.runI,
      EK.startI, EK.sSeq, EK.sAsg, EK.sRet, EK.sIf, EK.sFor, EK.sOwn, EK.sApp, EK.sFrz, EK.frz, EK.sExpr, EK.sNil,
      EK.sFldC, EK.sFldI, EK.sPar, EK.slF, EK.slO, EK.gv, EK.sa0, EK.saC, EK.saS, EK.gLst, EK.gTup, EK.g2,
      EK.g1, EK.gC, EK.tB', EK.g3, EK.bAnd, EK.bOr, EK.bNot, EK.vAnd, EK.vOr, EK.vNot, EK.vIf, EK.gLO,
      EK.gIt, EK.gItO, EK.gItC, EK.gLc, EK.gLc2, EK.gLD, EK.gLO1, EK.gLenO, EK.gSl, EK.oSome, EK.oNone, EK.gFld,
      EK.gMeth, EK.gMeth0, EK.gMake, EK.gCall, EK.g2M, EK.g1M, EK.gCM, EK.opC, EK.unC, EK.both, EK.negM, EK.lenC,
      EK.asLen, EK.gIxO, EK.sSetO, EK.ixO, EK.setO, EK.g2O, EK.g2O', EK.ownAt, EK.sgN, EK.sgT, EK.sgCons, EK.sgNil,
      EK.itemsOf_lst, EK.itemsOf_tup, EK.itemsTL_lst, EK.itemsTL_tup, EK.itemsT_tup, EK.asB_bl, EK.asI_int, EK.tupleD_lst, EK.tupleD_tup, EK.listD_lst, EK.listD_tup, EK.leI_int,
      EK.ltI_int, EK.gtI_int, EK.geI_int, EK.addD_int, EK.subD_int, EK.eqD_int, EK.neD_int, EK.eqD_bl, EK.neD_bl, EK.intD_int, EK.sliceD_lst, EK.sliceD_tup,
      EK.cutL_from1, EK.cutL_to, EK.wipeG, EK.fzG, EK.fzS, EK.yes, EK.lcB, EK.gProp, List.map_cons, List.map_nil, List.length_cons, List.length_nil,
      List.replicate, List.cons_append, List.nil_append, List.getElem?_cons_zero, List.getElem?_cons_succ, List.set_cons_zero, List.set_cons_succ, List.set_nil, Option.map_some, Option.bind_some, EK.bnd_ret, EK.bnd_assoc,
      EK.ofO_some, EK.noErr_ret, if_true, if_false, Nat.reduceSub, Nat.reduceAdd, Nat.reduceEqDiff, Nat.zero_add, Nat.sub_zero, Nat.sub_self, Nat.reduceLeDiff, EK.sl0,
      EK.sl1, EK.sl2, EK.sl3, EK.sl4, EK.sl5, EK.sl6, EK.sl7, EK.sl8, EK.sl9, EK.sl10, EK.sl11, EK.sl12,
      EK.sl13, Bool.not_true, Bool.not_false, Bool.false_eq_true, Bool.and_self, Bool.and_true, Bool.true_and, Bool.false_and, decide_true, decide_eq_true_eq, reduceIte, Option.map_none,
      Option.bind_none, Option.pure_def, Option.bind_eq_bind, $xs,*])


namespace EKL
open PySem PySem.Spec PyProof.Rows L2 EK
def b_law_mixed : SS := (sSeq (sPar 1 2 (slF (g2 addD (gDr 0 turnM) (fun _ => ret (.int 1)))) (slF (fun _ => ret (.int 0)))) (sSeq (sDr 0 putTurn (gv 1)) (sSeq (sFor (gIt (gLst (saC (fun _ => ret (.int 2147483647)) (saC (fun _ => ret (.int 2147483629)) (saC (fun _ => ret (.int 2147483587)) (saC (fun _ => ret (.int 2147483579)) sa0)))))) (sgN 3) (sSeq (sAsg (g2 addD (g2 mulD (fun _ => ret (.int 40014)) (gv 1)) (g2 fdivD (gv 3) (fun _ => ret (.int 19)))) (sgN 4)) (sSeq (sForC 0 (sgN 5) (sAsg (g2 modD (gC intD (saC (g2 addD (g2 addD (g2 mulD (gv 4) (fun _ => ret (.int 48271))) (gv 5)) (gv 1)) sa0)) (gv 3)) (sgN 4))) (sAsg (g2 addD (g2 mulD (gv 2) (fun _ => ret (.int 2147483647))) (g2 modD (gC intD (saC (g2 powD (gv 4) (fun _ => ret (.int 5))) sa0)) (gv 3))) (sgN 2))))) (sRet (gv 2)))))
def m_law_mixed : List D → M D := runB 6 b_law_mixed
def b_law_take : SS := (sSeq (sIf (tB' (g2 eqD (gDr 0 restM) (fun _ => ret (.int 0)))) (sDr 0 putRest (vIf (gDr 0 wideM) (gDr 0 popM) (gCall 1 m_law_mixed (saC (gv 0) sa0)))) sNil) (sSeq (sAsg (g2 modD (gC intD (saC (gDr 0 restM) sa0)) (gv 1)) (sgN 2)) (sSeq (sDr 0 putRest (g2 fdivD (gDr 0 restM) (gv 1))) (sRet (gv 2)))))
def m_law_take : List D → M D := runB 3 b_law_take
def b_law_shuffled : SS := (sSeq (sPar 2 3 (slO (gLO1 listD (saC (gv 1) sa0))) (slO (gLD sa0))) (sSeq (sWhile (fun G => ((ownAt G 2).getD []).length + 1) (tB' (g2O neD 2 (gLst sa0))) (sAppPop 3 2 (gCall 2 m_law_take (saC (gv 0) (saC (gLenO 2) sa0))))) (sFrz 3 (sRet (gv 3)))))
def m_law_shuffled : List D → M D := runB 4 b_law_shuffled
def b_law_labels : SS := (sSeq (sAsg (gLst (saC (fun _ => ret (.str "a")) (saC (fun _ => ret (.str "b")) (saC (fun _ => ret (.str "c")) (saC (fun _ => ret (.str "ab")) (saC (fun _ => ret (.str "x")) (saC (fun _ => ret (.str "lazy")) (saC (fun _ => ret (.str "none")) (saC (fun _ => ret (.str "zzzzzz")) (saC (fun _ => ret (.str "promis")) (saC (fun _ => ret (.str "fall")) (saC (fun _ => ret (.str "take")) (saC (fun _ => ret (.str "lead")) (saC (fun _ => ret (.str "entry")) sa0)))))))))))))) (sgN 2)) (sRet (gC sortedD (saC (gSl (gCall 2 m_law_shuffled (saC (gv 0) (saC (gv 2) sa0))) oNone (oSome (gv 1))) sa0))))
def m_law_labels : List D → M D := runB 3 b_law_labels
def b_law_heaps : SS := (sSeq (sAsg (gLst (saC (EK.gTup sa0) sa0)) (sgN 1)) (sSeq (sFor (gIt (gv 0)) (sgN 2) (sAsg (g2 addD (gv 1) (gLO (gLc [3] (gIt (gv 1)) (sgN 3) yes (g2 addD (gv 3) (EK.gTup (saC (gv 2) sa0)))))) (sgN 1))) (sRet (gLO (gLc [4, 3] (gIt (gC sortedD (saC (gLO (gLc [3] (gIt (gv 1)) (sgN 3) yes (EK.gTup (saC (gC lenD (saC (gv 3) sa0)) (saC (gv 3) sa0))))) sa0))) (sgT (sgCons (sgN 4) (sgCons (sgN 3) sgNil))) yes (gv 3))))))
def m_law_heaps : List D → M D := runB 5 b_law_heaps
def b_law_has_all : SS := (sRet (g2 eqD (gLO (gLc [2] (gIt (gv 1)) (sgN 2) (tB' (g2 ninD (gv 2) (gv 0))) (gv 2))) (gLst sa0)))
def m_law_has_all : List D → M D := runB 3 b_law_has_all
def b_law_thin : SS := (sSeq (sOwn 1 (gLD sa0)) (sSeq (sFor (gIt (gC sortedD (saC (gLO (gLc [3] (gIt (gv 0)) (sgN 3) yes (EK.gTup (saC (gC lenD (saC (gv 3) sa0)) (saC (gv 3) sa0))))) sa0))) (sgT (sgCons (sgN 2) (sgCons (sgN 3) sgNil))) (sIf (tB' (g2 eqD (gLO (gLc [4] (gItO 1) (sgN 4) (tB' (gCall 2 m_law_has_all (saC (gv 3) (saC (gv 4) sa0)))) (gv 4))) (gLst sa0))) (sApp 1 (gv 3)) sNil)) (sFrz 1 (sRet (gv 1)))))
def m_law_thin : List D → M D := runB 5 b_law_thin
def b_law_pick : SS := (sRet (g2 ixD (gv 1) (gCall 2 m_law_take (saC (gv 0) (saC (gC lenD (saC (gv 1) sa0)) sa0)))))
def m_law_pick : List D → M D := runB 2 b_law_pick
def b_law_drawn_thin : SS := (sSeq (sAsg (EK.gTup (saC (gCall 2 m_law_take (saC (gv 0) (saC (fun _ => ret (.int 4)) sa0))) (saC (gSl (gCall 1 m_law_heaps (saC (gv 1) sa0)) (oSome (fun _ => ret (.int 1))) oNone) sa0))) (sgT (sgCons (sgN 2) (sgCons (sgN 3) sgNil)))) (sSeq (sIf (tB' (g2 eqD (gv 2) (fun _ => ret (.int 0)))) (sSeq (sAsg (g2 addD (fun _ => ret (.int 1)) (gCall 2 m_law_take (saC (gv 0) (saC (gC lenD (saC (gv 1) sa0)) sa0)))) (sgN 4)) (sRet (gLO (gLc [5] (gIt (gv 3)) (sgN 5) (tB' (g2 eqD (gC lenD (saC (gv 5) sa0)) (gv 4))) (gv 5))))) sNil) (sSeq (sIf (tB' (g2 eqD (gv 2) (fun _ => ret (.int 1)))) (sRet (gLO (gLc [5] (gIt (gv 3)) (sgN 5) (tB' (g2 eqD (gC lenD (saC (gv 5) sa0)) (g2 addD (g2 fdivD (gC lenD (saC (gv 1) sa0)) (fun _ => ret (.int 2))) (fun _ => ret (.int 1))))) (gv 5)))) sNil) (sRet (gCall 1 m_law_thin (saC (gLO (gLc [6] (gItC rng1 (saC (g2 addD (fun _ => ret (.int 1)) (gCall 2 m_law_take (saC (gv 0) (saC (fun _ => ret (.int 4)) sa0)))) sa0)) (sgN 6) yes (gCall 2 m_law_pick (saC (gv 0) (saC (gv 3) sa0))))) sa0))))))
def m_law_drawn_thin : List D → M D := runB 7 b_law_drawn_thin
def b_law_any_thin : SS := (sSeq (sAsg (gCall 2 m_law_take (saC (gv 0) (saC (fun _ => ret (.int 8)) sa0))) (sgN 2)) (sSeq (sIf (tB' (g2 ltI (gv 2) (fun _ => ret (.int 2)))) (sRet (g2 ixD (gLst (saC (gLst sa0) (saC (gLst (saC (EK.gTup sa0) sa0)) sa0))) (gv 2))) sNil) (sSeq (sIf (tB' (g2 ltI (gv 2) (fun _ => ret (.int 5)))) (sRet (gCall 2 m_law_drawn_thin (saC (gv 0) (saC (gv 1) sa0)))) sNil) (sSeq (sAsg (gSl (gCall 1 m_law_heaps (saC (gv 1) sa0)) (oSome (fun _ => ret (.int 1))) oNone) (sgN 3)) (sRet (gCall 1 m_law_thin (saC (gLO (gLc [4] (gItC rng1 (saC (g2 addD (fun _ => ret (.int 2)) (gCall 2 m_law_take (saC (gv 0) (saC (fun _ => ret (.int 7)) sa0)))) sa0)) (sgN 4) yes (gCall 2 m_law_pick (saC (gv 0) (saC (gv 3) sa0))))) sa0)))))))
def m_law_any_thin : List D → M D := runB 5 b_law_any_thin
def b_law_loose : SS := (sSeq (sOwn 3 (gLO1 listD (saC (gv 2) sa0))) (sSeq (sFor (gItC rng1 (saC (vIf (tB' (g2 neD (gv 2) (gLst sa0))) (gCall 2 m_law_take (saC (gv 0) (saC (fun _ => ret (.int 5)) sa0))) (fun _ => ret (.int 0))) sa0)) (sgN 4) (sSeq (sAsg (gCall 2 m_law_pick (saC (gv 0) (saC (gv 2) sa0))) (sgN 5)) (sApp 3 (gCall 2 m_law_pick (saC (gv 0) (saC (gLO (gLc [6] (gIt (gCall 1 m_law_heaps (saC (gv 1) sa0))) (sgN 6) (tB' (gCall 2 m_law_has_all (saC (gv 6) (saC (gv 5) sa0)))) (gv 6))) sa0)))))) (sFrz 3 (sRet (gCall 2 m_law_shuffled (saC (gv 0) (saC (gv 3) sa0)))))))
def m_law_loose : List D → M D := runB 7 b_law_loose
def b_is_list : SS := (sRet (g1 (isiD [] fun t => List.lookup t ([("NoneType", false), ("bool", false), ("int", false), ("str", false), ("tuple", true), ("list", true), ("dict", false)] : List (String × Bool))) (gv 0)))
def m_is_list : List D → M D := runB 1 b_is_list
def b_is_name : SS := (sRet (vAnd (g1 (isiD [] fun t => List.lookup t ([("NoneType", false), ("bool", false), ("int", false), ("str", true), ("tuple", false), ("list", false), ("dict", false)] : List (String × Bool))) (gv 0)) (vAnd (g3 leI leI (fun _ => ret (.int 1)) (gC lenD (saC (gv 0) sa0)) (fun _ => ret (.int 6))) (gC allD (saC (gLO (gLc [1] (gIt (gv 0)) (sgN 1) yes (g2 inD (gv 1) (fun _ => ret (.str "abcdefghijklmnopqrstuvwxyz"))))) sa0)))))
def m_is_name : List D → M D := runB 2 b_is_name
def b_are_machines : SS := (sSeq (sIf (bOr (bNot (tB' (gCall 1 m_is_list (saC (gv 0) sa0)))) (bOr (bNot (tB' (g3 leI leI (fun _ => ret (.int 1)) (gC lenD (saC (gv 0) sa0)) (fun _ => ret (.int 5))))) (bNot (tB' (gC allD (saC (gLO (gLc [1] (gIt (gv 0)) (sgN 1) yes (gCall 1 m_is_name (saC (gv 1) sa0)))) sa0)))))) (sRet (fun _ => ret (.bl false))) sNil) (sRet (g2 eqD (g1 (setD lenS) (gv 0)) (gC lenD (saC (gv 0) sa0)))))
def m_are_machines : List D → M D := runB 2 b_are_machines
def b_is_lot : SS := (sSeq (sIf (bOr (bNot (tB' (g1 (isiD [] fun t => List.lookup t ([("NoneType", false), ("bool", false), ("int", false), ("str", false), ("tuple", true), ("list", false), ("dict", false)] : List (String × Bool))) (gv 1)))) (bNot (tB' (gC allD (saC (gLO (gLc [2] (gIt (gv 1)) (sgN 2) yes (vAnd (g1 (isiD [] fun t => List.lookup t ([("NoneType", false), ("bool", false), ("int", false), ("str", true), ("tuple", false), ("list", false), ("dict", false)] : List (String × Bool))) (gv 2)) (g2 inD (gv 2) (gv 0))))) sa0))))) (sRet (fun _ => ret (.bl false))) sNil) (sRet (gC allD (saC (gLO (gLc [3, 4] (gItC zip2 (saC (gv 1) (saC (gSl (gv 1) (oSome (fun _ => ret (.int 1))) oNone) sa0))) (sgT (sgCons (sgN 3) (sgCons (sgN 4) sgNil))) yes (g2 ltP (gv 3) (gv 4)))) sa0))))
def m_is_lot : List D → M D := runB 5 b_is_lot
def b_are_lots : SS := (sRet (vAnd (gCall 1 m_is_list (saC (gv 1) sa0)) (vAnd (g2 leI (gC lenD (saC (gv 1) sa0)) (fun _ => ret (.int 32))) (gC allD (saC (gLO (gLc [2] (gIt (gv 1)) (sgN 2) yes (gCall 2 m_is_lot (saC (gv 0) (saC (gv 2) sa0))))) sa0)))))
def m_are_lots : List D → M D := runB 3 b_are_lots
def b_in_order : SS := (sRet (gLO (gLc [1, 2] (gIt (gC sortedD (saC (gLO (gLc [2] (gIt (gv 0)) (sgN 2) yes (EK.gTup (saC (gC lenD (saC (gv 2) sa0)) (saC (gv 2) sa0))))) sa0))) (sgT (sgCons (sgN 1) (sgCons (sgN 2) sgNil))) yes (gv 2))))
def m_in_order : List D → M D := runB 3 b_in_order
def b_is_inside : SS := (sRet (gC allD (saC (gLO (gLc [2] (gIt (gv 0)) (sgN 2) yes (g2 inD (gv 2) (gv 1)))) sa0)))
def m_is_inside : List D → M D := runB 3 b_is_inside
def b_least_of : SS := (sSeq (sOwn 1 (gLD sa0)) (sSeq (sFor (gIt (gCall 1 m_in_order (saC (gv 0) sa0))) (sgN 2) (sIf (bNot (tB' (gC anyD (saC (gLO (gLc [3] (gItO 1) (sgN 3) yes (gCall 2 m_is_inside (saC (gv 3) (saC (gv 2) sa0))))) sa0)))) (sApp 1 (gv 2)) sNil)) (sFrz 1 (sRet (gv 1)))))
def m_least_of : List D → M D := runB 4 b_least_of
def b_Family___init__ : SS := (sSeq (sIf (bNot (tB' (gCall 1 m_are_machines (saC (gv 1) sa0)))) (sThrow1 "BadFamily" "part" (fun _ => ret (.str "machines"))) sNil) (sSeq (sIf (bNot (tB' (gCall 2 m_are_lots (saC (gv 1) (saC (gv 2) sa0))))) (sThrow1 "BadFamily" "part" (fun _ => ret (.str "lots"))) sNil) (sSeq (sFldC "Family" "own_machines" (gC tupleD (saC (gC sortedD (saC (gv 1) sa0)) sa0))) (sFldC "Family" "own_least" (gCall 1 m_least_of (saC (gv 2) sa0))))))
def m_Family___init__ : List D → M (List Str × List D) := runI "Family" 3 b_Family___init__
def b_law_family : SS := (sSeq (sPar 3 4 (slF (gCall 2 m_law_shuffled (saC (gv 0) (saC (gv 1) sa0)))) (slF (gCall 3 m_law_loose (saC (gv 0) (saC (gv 1) (saC (gv 2) sa0)))))) (sSeq (sIf (tB' (g2 eqD (gCall 2 m_law_take (saC (gv 0) (saC (fun _ => ret (.int 2)) sa0))) (fun _ => ret (.int 0)))) (sRet (gMake "Family" 2 m_Family___init__ (saC (gC tupleD (saC (gv 3) sa0)) (saC (gC tupleD (saC (gv 4) sa0)) sa0)))) sNil) (sRet (gMake "Family" 2 m_Family___init__ (saC (gv 3) (saC (gv 4) sa0))))))
def m_law_family : List D → M D := runB 5 b_law_family
def b_Family___eq__ : SS := (sSeq (sIf (bNot (tB' (g1 (isiD [("Family", true)] fun t => List.lookup t ([("NoneType", false), ("bool", false), ("int", false), ("str", false), ("tuple", false), ("list", false), ("dict", false)] : List (String × Bool))) (gv 1)))) (sRet (fun _ => ret (.bl false))) sNil) (sRet (vAnd (g2 eqD (gFld "Family" "own_machines" (gv 0)) (gFld "Family" "own_machines" (gv 1))) (g2 eqD (gFld "Family" "own_least" (gv 0)) (gFld "Family" "own_least" (gv 1))))))
def m_Family___eq__ : List D → M D := runB 2 b_Family___eq__
def b_need_family : SS := (sIf (bNot (tB' (g1 (isiD [("Family", true)] fun t => List.lookup t ([("NoneType", false), ("bool", false), ("int", false), ("str", false), ("tuple", false), ("list", false), ("dict", false)] : List (String × Bool))) (gv 0)))) (sThrow1 "BadFamily" "part" (gv 1)) sNil)
def m_need_family : List D → M D := runB 2 b_need_family
def b_need_like : SS := (sIf (tB' (g2 neD (gFld "Family" "own_machines" (gv 0)) (gFld "Family" "own_machines" (gv 1)))) (sThrow0 "OtherMachines") sNil)
def m_need_like : List D → M D := runB 2 b_need_like
def b_merged : SS := (sRet (gC tupleD (saC (g1 (setD sortedS) (gLst (saS (gv 0) (saS (gv 1) sa0)))) sa0)))
def m_merged : List D → M D := runB 2 b_merged
def b_Family___and__ : SS := (sSeq (sExpr (gCall 2 m_need_family (saC (gv 1) (saC (fun _ => ret (.str "other")) sa0)))) (sSeq (sExpr (gCall 2 m_need_like (saC (gv 0) (saC (gv 1) sa0)))) (sRet (gMake "Family" 2 m_Family___init__ (saC (gFld "Family" "own_machines" (gv 0)) (saC (gCall 1 m_least_of (saC (gLO (gLc2 [2, 3] [3] (gIt (gFld "Family" "own_least" (gv 0))) (sgN 2) yes (gIt (gFld "Family" "own_least" (gv 1))) (sgN 3) yes (gCall 2 m_merged (saC (gv 2) (saC (gv 3) sa0))))) sa0)) sa0))))))
def m_Family___and__ : List D → M D := runB 4 b_Family___and__
def b_Family___or__ : SS := (sSeq (sExpr (gCall 2 m_need_family (saC (gv 1) (saC (fun _ => ret (.str "other")) sa0)))) (sSeq (sExpr (gCall 2 m_need_like (saC (gv 0) (saC (gv 1) sa0)))) (sRet (gMake "Family" 2 m_Family___init__ (saC (gFld "Family" "own_machines" (gv 0)) (saC (gLst (saS (gFld "Family" "own_least" (gv 0)) (saS (gFld "Family" "own_least" (gv 1)) sa0))) sa0))))))
def m_Family___or__ : List D → M D := runB 2 b_Family___or__
def b_lots_in_order : SS := (sSeq (sAsg (gLst (saC (EK.gTup sa0) sa0)) (sgN 1)) (sSeq (sFor (gIt (gC sortedD (saC (gv 0) sa0))) (sgN 2) (sAsg (g2 addD (gv 1) (gLO (gLc [3] (gIt (gv 1)) (sgN 3) yes (EK.gTup (saS (gv 3) (saC (gv 2) sa0)))))) (sgN 1))) (sRet (gCall 1 m_in_order (saC (gv 1) sa0)))))
def m_lots_in_order : List D → M D := runB 4 b_lots_in_order
def b_common : SS := (sRet (gC tupleD (saC (gLO (gLc [2] (gIt (gv 0)) (sgN 2) (tB' (g2 inD (gv 2) (gv 1))) (gv 2))) sa0)))
def m_common : List D → M D := runB 3 b_common
def b_against : SS := (sSeq (sAsg (gLO (gLc [3] (gIt (gCall 1 m_lots_in_order (saC (gv 0) sa0))) (sgN 3) (tB' (gC allD (saC (gLO (gLc [4] (gIt (gv 1)) (sgN 4) yes (g2 neD (gCall 2 m_common (saC (gv 3) (saC (gv 4) sa0))) (EK.gTup sa0)))) sa0))) (gv 3))) (sgN 2)) (sRet (gCall 1 m_least_of (saC (gv 2) sa0))))
def m_against : List D → M D := runB 5 b_against
def b_Family___invert__ : SS := (sRet (gMake "Family" 2 m_Family___init__ (saC (gFld "Family" "own_machines" (gv 0)) (saC (gCall 2 m_against (saC (gFld "Family" "own_machines" (gv 0)) (saC (gFld "Family" "own_least" (gv 0)) sa0))) sa0))))
def m_Family___invert__ : List D → M D := runB 1 b_Family___invert__
def b_need_two : SS := (sSeq (sExpr (gCall 2 m_need_family (saC (gv 0) (saC (fun _ => ret (.str "one")) sa0)))) (sSeq (sExpr (gCall 2 m_need_family (saC (gv 1) (saC (fun _ => ret (.str "other")) sa0)))) (sExpr (gCall 2 m_need_like (saC (gv 0) (saC (gv 1) sa0))))))
def m_need_two : List D → M D := runB 2 b_need_two
def b_holds : SS := (sRet (gC anyD (saC (gLO (gLc [2] (gIt (gFld "Family" "own_least" (gv 0))) (sgN 2) yes (gCall 2 m_is_inside (saC (gv 2) (saC (gv 1) sa0))))) sa0)))
def m_holds : List D → M D := runB 3 b_holds
def b_is_narrower : SS := (sSeq (sExpr (gCall 2 m_need_two (saC (gv 0) (saC (gv 1) sa0)))) (sRet (gC allD (saC (gLO (gLc [2] (gIt (gFld "Family" "own_least" (gv 0))) (sgN 2) yes (gCall 2 m_holds (saC (gv 1) (saC (gv 2) sa0))))) sa0))))
def m_is_narrower : List D → M D := runB 3 b_is_narrower
def b_Family_without : SS := (sSeq (sIf (bNot (tB' (gCall 2 m_is_lot (saC (gFld "Family" "own_machines" (gv 0)) (saC (gv 1) sa0))))) (sThrow0 "BadLot") sNil) (sRet (gMake "Family" 2 m_Family___init__ (saC (gFld "Family" "own_machines" (gv 0)) (saC (gLO (gLc [2] (gIt (gFld "Family" "own_least" (gv 0))) (sgN 2) (tB' (g2 eqD (gCall 2 m_common (saC (gv 2) (saC (gv 1) sa0))) (EK.gTup sa0))) (gv 2))) sa0)))))
def m_Family_without : List D → M D := runB 3 b_Family_without
def b_Family___len__ : SS := (sRet (gC lenD (saC (gFld "Family" "own_least" (gv 0)) sa0)))
def m_Family___len__ : List D → M D := runB 1 b_Family___len__
def b_Family_enough : SS := (sSeq (sIf (bNot (tB' (gCall 2 m_is_lot (saC (gFld "Family" "own_machines" (gv 0)) (saC (gv 1) sa0))))) (sThrow0 "BadLot") sNil) (sRet (gCall 2 m_holds (saC (gv 0) (saC (gv 1) sa0)))))
def m_Family_enough : List D → M D := runB 2 b_Family_enough
end EKL


namespace EK
open PySem PySem.Spec PyProof.Rows L2

abbrev Lot := List Str
def sLt (x y : Str) : Bool := PySem.W.dataLt (.str x) (.str y)
theorem sLt_irrefl (x : Str) : sLt x x = false := lex_irrefl (O := itemOrd) _
theorem sLt_trans {x y z : Str} (h : sLt x y = true) (h' : sLt y z = true) : sLt x z = true := lex_trans (O := itemOrd) _ _ _ h h'
theorem sLt_total {x y : Str} (h : sLt x y = false) (h' : sLt y x = false) : x = y := by
  have e := lex_total (O := itemOrd) _ _ h h'
  simp only [PySem.W.keyToks, List.cons.injEq, Sum.inr.injEq, and_true] at e
  exact PySem.W.str_of_cps e
theorem sLt_ne {x y : Str} (h : sLt x y = true) : x ≠ y := fun e => by rw [e, sLt_irrefl] at h; cases h

theorem ext_pw {α : Type} {r : α → α → Prop} (irr : ∀ a, ¬ r a a) (tr : ∀ a b c, r a b → r b c → r a c) : ∀ (l l' : List α), l.Pairwise r → l'.Pairwise r → (∀ x, x ∈ l ↔ x ∈ l') → l = l'
  | [], [], _, _, _ => rfl
  | [], y :: _, _, _, h => by have := (h y).mpr (.head _); cases this
  | x :: _, [], _, _, h => by have := (h x).mp (.head _); cases this
  | x :: l, y :: l', p, q, h => by
    obtain ⟨p1, p2⟩ := List.pairwise_cons.mp p
    obtain ⟨q1, q2⟩ := List.pairwise_cons.mp q
    have e : x = y := by
      rcases List.mem_cons.mp ((h x).mp (.head _)) with e | e
      · exact e
      · rcases List.mem_cons.mp ((h y).mpr (.head _)) with e' | e'
        · exact e'.symm
        · exact absurd (tr _ _ _ (p1 _ e') (q1 _ e)) (irr _)
    subst e
    rw [ext_pw irr tr l l' p2 q2 fun z => ?_]
    constructor
    · intro hz
      rcases List.mem_cons.mp ((h z).mp (.tail _ hz)) with e | e
      · subst e; exact absurd (p1 _ hz) (irr _)
      · exact e
    · intro hz
      rcases List.mem_cons.mp ((h z).mpr (.tail _ hz)) with e | e
      · subst e; exact absurd (q1 _ hz) (irr _)
      · exact e

def Asc (x : Lot) : Prop := x.Pairwise fun a b => sLt a b = true
theorem Asc.nodup {x : Lot} (h : Asc x) : x.Nodup := h.imp sLt_ne
theorem Asc.ext {x y : Lot} (h : Asc x) (h' : Asc y) (e : ∀ n, n ∈ x ↔ n ∈ y) : x = y :=
  ext_pw (r := fun a b => sLt a b = true) (fun a q => by rw [sLt_irrefl] at q; cases q) (fun _ _ _ => sLt_trans) x y h h' e
theorem Asc.filter {x : Lot} (h : Asc x) (p : Str → Bool) : Asc (x.filter p) := List.Pairwise.filter p h
theorem Asc.sub {x y : Lot} (h : Asc y) (s : x.Sublist y) : Asc x := List.Pairwise.sublist s h
def inside (a b : Lot) : Bool := a.all fun n => decide (n ∈ b)
theorem inside_iff {a b : Lot} : inside a b = true ↔ ∀ n ∈ a, n ∈ b := by
  unfold inside
  simp
theorem inside_refl (a : Lot) : inside a a = true := inside_iff.mpr fun _ h => h
theorem inside_trans {a b c : Lot} (h : inside a b = true) (h' : inside b c = true) : inside a c = true := inside_iff.mpr fun n q => inside_iff.mp h' n (inside_iff.mp h n q)
theorem Asc.antisymm {a b : Lot} (h : Asc a) (h' : Asc b) (p : inside a b = true) (q : inside b a = true) : a = b := h.ext h' fun n => ⟨inside_iff.mp p n, inside_iff.mp q n⟩
def com (a b : Lot) : Lot := a.filter fun n => decide (n ∈ b)
def dif (x d : Lot) : Lot := x.filter fun n => !decide (n ∈ d)
theorem mem_com {a b : Lot} {n : Str} : n ∈ com a b ↔ n ∈ a ∧ n ∈ b := by unfold com; simp
theorem mem_dif {a b : Lot} {n : Str} : n ∈ dif a b ↔ n ∈ a ∧ n ∉ b := by unfold dif; simp
theorem len_le_of_sub {α : Type} : ∀ {l l' : List α}, l.Nodup → (∀ x ∈ l, x ∈ l') → l.length ≤ l'.length
  | [], _, _, _ => Nat.zero_le _
  | x :: l, l', n, h => by
    obtain ⟨n1, n2⟩ := List.nodup_cons.mp n
    obtain ⟨a, b, e⟩ := List.append_of_mem (h x (.head _))
    have := len_le_of_sub (l := l) (l' := a ++ b) n2 fun y hy => by
      have := h y (.tail _ hy)
      rw [e] at this
      rcases List.mem_append.mp this with q | q
      · exact List.mem_append_left _ q
      · rcases List.mem_cons.mp q with q | q
        · subst q; exact absurd hy n1
        · exact List.mem_append_right _ q
    rw [e]
    simp only [List.length_cons, List.length_append] at this ⊢
    omega

def lotKey (l : Lot) : PyData := .tuple [.int l.length, .tuple (l.map .str)]
def lotLe (a b : Lot) : Bool := PySem.W.dataLe false lotKey a b
def lotLt (a b : Lot) : Bool := PySem.W.dataLt (lotKey a) (lotKey b)
theorem lotLe_eq (a b : Lot) : lotLe a b = !lotLt b a := rfl
theorem toks_strs_inj : ∀ {a b : Lot}, PySem.W.keyToksAll (a.map PyData.str) = PySem.W.keyToksAll (b.map PyData.str) → a = b
  | [], [], _ => rfl
  | [], _ :: _, h => by simp [PySem.W.keyToksAll] at h
  | _ :: _, [], h => by simp [PySem.W.keyToksAll] at h
  | x :: a, y :: b, h => by
    simp only [List.map_cons, PySem.W.keyToksAll, PySem.W.keyToks, List.cons_append, List.nil_append, List.cons.injEq, Sum.inr.injEq, true_and] at h
    rw [PySem.W.str_of_cps h.1, toks_strs_inj h.2]
theorem lotLt_irrefl (a : Lot) : lotLt a a = false := lex_irrefl (O := itemOrd) _
theorem lotLt_trans {a b c : Lot} (h : lotLt a b = true) (h' : lotLt b c = true) : lotLt a c = true := lex_trans (O := itemOrd) _ _ _ h h'
theorem lotLt_total {a b : Lot} (h : lotLt a b = false) (h' : lotLt b a = false) : a = b := by
  have e := lex_total (O := itemOrd) _ _ h h'
  simp only [lotKey, PySem.W.keyToks, PySem.W.keyToksAll, List.cons_append, List.nil_append, List.cons.injEq, Sum.inl.injEq, true_and, List.append_cancel_right_eq] at e
  exact toks_strs_inj e.2
theorem lotLt_len {a b : Lot} (h : a.length < b.length) : lotLt a b = true := by
  unfold lotLt PySem.W.dataLt lotKey
  simp only [PySem.W.keyToks, PySem.W.keyToksAll, List.cons_append, List.nil_append]
  rw [lex_self (O := itemOrd)]
  exact lex_true.mpr (.inl (decide_eq_true (by omega)))
theorem lotLe_total : PySem.W.TotalLe lotLe := (PySem.W.sortLe_total _ _ _ : PySem.W.TotalLe (PySem.W.dataLe false lotKey))
def sortLots (xs : List Lot) : List Lot := xs.mergeSort lotLe
theorem mem_sortLots {xs : List Lot} {x : Lot} : x ∈ sortLots xs ↔ x ∈ xs := List.mem_mergeSort
theorem sortLots_pw (xs : List Lot) : (sortLots xs).Pairwise fun a b => lotLe a b = true := PySem.W.sort_pairwise lotLe_total xs

def stepL (f : List Lot) (l : Lot) : List Lot := if f.any (fun a => inside a l) then f else f ++ [l]
def leastOf (xs : List Lot) : List Lot := (sortLots xs).foldl stepL []
def hol (L : List Lot) (x : Lot) : Bool := L.any fun a => inside a x
theorem hol_iff {L : List Lot} {x : Lot} : hol L x = true ↔ ∃ a ∈ L, inside a x = true := by unfold hol; simp
structure Canon (L : List Lot) : Prop where
  asc : ∀ x ∈ L, Asc x
  ord : L.Pairwise fun a b => lotLt a b = true
  anti : ∀ a ∈ L, ∀ b ∈ L, inside a b = true → a = b
theorem Canon.nodup {L : List Lot} (h : Canon L) : L.Nodup := h.ord.imp fun {a b} h e => by rw [e, lotLt_irrefl] at h; cases h
theorem Canon.ext {L L' : List Lot} (h : Canon L) (h' : Canon L') (e : ∀ x, x ∈ L ∨ x ∈ L' → hol L x = hol L' x) : L = L' := by
  have one : ∀ {L L' : List Lot}, Canon L → Canon L' → (∀ x, x ∈ L ∨ x ∈ L' → hol L x = hol L' x) → ∀ x ∈ L, x ∈ L' := by
    intro L L' h h' e x hx
    have h1 : hol L' x = true := by rw [← e x (.inl hx)]; exact hol_iff.mpr ⟨x, hx, inside_refl x⟩
    obtain ⟨y, hy, i1⟩ := hol_iff.mp h1
    have h2 : hol L y = true := by rw [e y (.inr hy)]; exact hol_iff.mpr ⟨y, hy, inside_refl y⟩
    obtain ⟨z, hz, i2⟩ := hol_iff.mp h2
    have q := h.anti z hz x hx (inside_trans i2 i1)
    subst q
    have := (h.asc z hz).antisymm (h'.asc y hy) i2 i1
    rw [this]; exact hy
  exact ext_pw (r := fun a b => lotLt a b = true) (fun a q => by rw [lotLt_irrefl] at q; cases q) (fun _ _ _ => lotLt_trans) L L' h.ord h'.ord fun x =>
    ⟨one h h' e x, one h' h (fun x hx => (e x hx.symm).symm) x⟩
/-- what the fold keeps -/
structure LInv (p f : List Lot) : Prop where
  sub : ∀ x ∈ f, x ∈ p
  cov : ∀ x ∈ p, ∃ a ∈ f, inside a x = true
  ord : f.Pairwise fun a b => lotLt a b = true
  anti : ∀ a ∈ f, ∀ b ∈ f, inside a b = true → a = b
theorem LInv.step {p f : List Lot} {l : Lot} (h : LInv p f) (ha : ∀ x ∈ p, Asc x) (hl : Asc l) (hp : ∀ x ∈ p, lotLe x l = true) : LInv (p ++ [l]) (stepL f l) := by
  unfold stepL
  cases e : f.any fun a => inside a l with
  | true =>
    rw [if_pos rfl]
    refine ⟨fun x hx => List.mem_append_left _ (h.sub x hx), fun x hx => ?_, h.ord, h.anti⟩
    rcases List.mem_append.mp hx with q | q
    · exact h.cov x q
    · rw [List.mem_singleton.mp q]
      obtain ⟨a, h1, h2⟩ := List.any_eq_true.mp e
      exact ⟨a, h1, h2⟩
  | false =>
    rw [if_neg (by simp)]
    have no : ∀ a ∈ f, inside a l = false := fun a q => by simpa using List.any_eq_false.mp e a q
    have no' : ∀ a ∈ f, inside l a = false := fun a q => by
      cases w : inside l a with
      | false => rfl
      | true =>
        have le := hp a (h.sub a q)
        rw [lotLe_eq] at le
        have len : a.length ≤ l.length := by
          by_cases z : l.length < a.length
          · rw [lotLt_len z] at le; cases le
          · omega
        have len2 : l.length ≤ a.length := len_le_of_sub hl.nodup (inside_iff.mp w)
        have aa := ha a (h.sub a q)
        -- the same length, one within the other
        have : inside a l = true := inside_iff.mpr fun n hn => by
          by_cases z : n ∈ l
          · exact z
          · have := len_le_of_sub (l := n :: l) (l' := a) (List.nodup_cons.mpr ⟨z, hl.nodup⟩) (fun y hy => by
              rcases List.mem_cons.mp hy with rfl | hy
              · exact hn
              · exact inside_iff.mp w y hy)
            simp only [List.length_cons] at this
            omega
        rw [no a q] at this; cases this
    refine ⟨fun x hx => ?_, fun x hx => ?_, ?_, ?_⟩
    · rcases List.mem_append.mp hx with q | q
      · exact List.mem_append_left _ (h.sub x q)
      · exact List.mem_append_right _ q
    · rcases List.mem_append.mp hx with q | q
      · obtain ⟨a, h1, h2⟩ := h.cov x q
        exact ⟨a, List.mem_append_left _ h1, h2⟩
      · exact ⟨l, List.mem_append_right _ (.head _), by rw [List.mem_singleton.mp q]; exact inside_refl l⟩
    · refine List.pairwise_append.mpr ⟨h.ord, List.pairwise_singleton _ _, fun a q b hb => ?_⟩
      rw [List.mem_singleton.mp hb]
      have le := hp a (h.sub a q)
      rw [lotLe_eq] at le
      cases z : lotLt a l with
      | true => rfl
      | false =>
        have := lotLt_total z (by simpa using le)
        subst this
        have := no a q
        rw [inside_refl] at this; cases this
    · intro a ha' b hb i
      rcases List.mem_append.mp ha' with q | q <;> rcases List.mem_append.mp hb with r | r
      · exact h.anti a q b r i
      · rw [List.mem_singleton.mp r, no a q] at i; cases i
      · rw [List.mem_singleton.mp q, no' b r] at i; cases i
      · rw [List.mem_singleton.mp q, List.mem_singleton.mp r]
theorem least_fold : ∀ (xs p f : List Lot), LInv p f → (∀ x ∈ p, Asc x) → (∀ x ∈ xs, Asc x) → (p ++ xs).Pairwise (fun a b => lotLe a b = true) → LInv (p ++ xs) (xs.foldl stepL f)
  | [], p, f, h, _, _, _ => by rw [List.append_nil]; exact h
  | x :: xs, p, f, h, hp, hx, hs => by
    have e : p ++ x :: xs = (p ++ [x]) ++ xs := by simp
    rw [e]
    refine least_fold xs (p ++ [x]) (stepL f x) (h.step hp (hx x (.head _)) fun y hy => ?_) ?_ (fun y hy => hx y (.tail _ hy)) (by rw [← e]; exact hs)
    · exact (List.pairwise_append.mp hs).2.2 y hy x (.head _)
    · intro y hy
      rcases List.mem_append.mp hy with q | q
      · exact hp y q
      · rw [List.mem_singleton.mp q]; exact hx x (.head _)
theorem least_inv {xs : List Lot} (h : ∀ x ∈ xs, Asc x) : LInv (sortLots xs) (leastOf xs) := by
  unfold leastOf
  have := least_fold (sortLots xs) [] [] ⟨fun _ h => h, fun _ h => (nomatch h), .nil, fun _ h => (nomatch h)⟩ (fun _ h => (nomatch h)) (fun x hx => h x (mem_sortLots.mp hx)) (by simpa using sortLots_pw xs)
  simpa using this
theorem leastOf_mem {xs : List Lot} (h : ∀ x ∈ xs, Asc x) {x : Lot} (hx : x ∈ leastOf xs) : x ∈ xs := mem_sortLots.mp ((least_inv h).sub x hx)
theorem leastOf_canon {xs : List Lot} (h : ∀ x ∈ xs, Asc x) : Canon (leastOf xs) := ⟨fun _ hx => h _ (leastOf_mem h hx), (least_inv h).ord, (least_inv h).anti⟩
theorem hol_leastOf {xs : List Lot} (h : ∀ x ∈ xs, Asc x) (y : Lot) : hol (leastOf xs) y = hol xs y := by
  rw [Bool.eq_iff_iff, hol_iff, hol_iff]
  constructor
  · rintro ⟨a, h1, h2⟩
    exact ⟨a, leastOf_mem h h1, h2⟩
  · rintro ⟨a, h1, h2⟩
    obtain ⟨b, h3, h4⟩ := (least_inv h).cov a (mem_sortLots.mpr h1)
    exact ⟨b, h3, inside_trans h4 h2⟩
theorem Canon.least {L : List Lot} (h : Canon L) : leastOf L = L := (leastOf_canon h.asc).ext h fun x _ => hol_leastOf h.asc x

theorem strLe_total : PySem.W.TotalLe (PySem.W.dataLe false PyData.str) := PySem.W.sortLe_total _ _ _
theorem sortS_asc {xs : Lot} (h : xs.Nodup) : Asc (sortS xs) := by
  have s := PySem.W.sort_pairwise strLe_total xs
  have n : (sortS xs).Nodup := (List.mergeSort_perm xs _).nodup_iff.mpr h
  unfold Asc
  have := List.Pairwise.and s n
  refine this.imp fun {a b} ⟨q, ne⟩ => ?_
  have q : (!sLt b a) = true := q
  cases z : sLt a b with
  | true => rfl
  | false => exact absurd (sLt_total z (by simpa using q)) ne
theorem mem_sortS {xs : Lot} {n : Str} : n ∈ sortS xs ↔ n ∈ xs := List.mem_mergeSort
theorem mem_addK {α : Type} [DecidableEq α] {ks : List α} {k x : α} : x ∈ addK ks k ↔ x ∈ ks ∨ x = k := by
  unfold addK
  split
  · rename_i h
    constructor
    · exact .inl
    · rintro (q | q)
      · exact q
      · subst q; exact h
  · simp
theorem mem_foldK {α : Type} [DecidableEq α] : ∀ (xs ks : List α) (x : α), x ∈ xs.foldl addK ks ↔ x ∈ ks ∨ x ∈ xs
  | [], ks, x => by simp
  | y :: xs, ks, x => by
    rw [List.foldl_cons, mem_foldK xs, mem_addK, List.mem_cons, or_assoc]
theorem foldK_nodup {α : Type} [DecidableEq α] : ∀ (xs ks : List α), ks.Nodup → (xs.foldl addK ks).Nodup
  | [], _, h => h
  | y :: xs, ks, h => foldK_nodup xs _ (addK_nodup h)
theorem mem_dedupK {α : Type} [DecidableEq α] {xs : List α} {x : α} : x ∈ dedupK xs ↔ x ∈ xs := by
  unfold dedupK
  rw [mem_foldK]
  simp
theorem dedupK_nodup {α : Type} [DecidableEq α] (xs : List α) : (dedupK xs).Nodup := foldK_nodup xs [] .nil
def mrg (a b : Lot) : Lot := sortS (dedupK (a ++ b))
theorem mrg_asc (a b : Lot) : Asc (mrg a b) := sortS_asc (dedupK_nodup _)
theorem mem_mrg {a b : Lot} {n : Str} : n ∈ mrg a b ↔ n ∈ a ∨ n ∈ b := by unfold mrg; rw [mem_sortS, mem_dedupK, List.mem_append]
def subsF (ms : Lot) (f : List Lot) : List Lot := ms.foldl (fun f n => f ++ f.map (· ++ [n])) f
def allLots (ms : Lot) : List Lot := sortLots (subsF ms [[]])
theorem mem_subsF : ∀ (ms : Lot) (f : List Lot) (x : Lot), x ∈ subsF ms f ↔ ∃ a ∈ f, ∃ s, s.Sublist ms ∧ x = a ++ s
  | [], f, x => by simp [subsF]
  | n :: ms, f, x => by
    have : subsF (n :: ms) f = subsF ms (f ++ f.map (· ++ [n])) := rfl
    rw [this, mem_subsF ms]
    constructor
    · rintro ⟨a, ha, s, hs, rfl⟩
      rcases List.mem_append.mp ha with q | q
      · exact ⟨a, q, s, hs.cons _, rfl⟩
      · obtain ⟨b, hb, rfl⟩ := List.mem_map.mp q
        exact ⟨b, hb, n :: s, hs.cons_cons _, by simp⟩
    · rintro ⟨a, ha, s, hs, rfl⟩
      cases hs with
      | cons _ hs => exact ⟨a, List.mem_append_left _ ha, s, hs, rfl⟩
      | cons_cons _ hs => exact ⟨a ++ [n], List.mem_append_right _ (List.mem_map.mpr ⟨a, ha, rfl⟩), _, hs, by simp⟩
theorem subsF_len : ∀ (ms : Lot) (f : List Lot), (subsF ms f).length = 2 ^ ms.length * f.length
  | [], f => by simp [subsF]
  | n :: ms, f => by
    have : subsF (n :: ms) f = subsF ms (f ++ f.map (· ++ [n])) := rfl
    rw [this, subsF_len ms, List.length_append, List.length_map, List.length_cons, Nat.pow_succ, Nat.mul_assoc]
    congr 1
    omega
/-- a lot of some machines -/
structure LotOf (ms x : Lot) : Prop where
  asc : Asc x
  sub : ∀ n ∈ x, n ∈ ms
theorem LotOf.eq {ms x : Lot} (h : LotOf ms x) (hm : Asc ms) : x = ms.filter fun n => decide (n ∈ x) := h.asc.ext (hm.filter _) fun n => by
  rw [List.mem_filter]
  simp only [decide_eq_true_eq]
  exact ⟨fun q => ⟨h.sub n q, q⟩, fun q => q.2⟩
theorem LotOf.sublist {ms x : Lot} (h : LotOf ms x) (hm : Asc ms) : x.Sublist ms := by
  rw [h.eq hm]
  exact List.filter_sublist
theorem mem_allLots {ms x : Lot} (hm : Asc ms) : x ∈ allLots ms ↔ LotOf ms x := by
  unfold allLots
  rw [mem_sortLots, mem_subsF]
  constructor
  · rintro ⟨a, ha, s, hs, rfl⟩
    rw [List.mem_singleton.mp ha, List.nil_append]
    exact ⟨hm.sub hs, fun n hn => hs.subset hn⟩
  · intro h
    exact ⟨[], .head _, x, h.sublist hm, rfl⟩
def andL (A B : List Lot) : List Lot := leastOf (A.flatMap fun a => B.map fun b => mrg a b)
def orL (A B : List Lot) : List Lot := leastOf (A ++ B)
def notL (ms : Lot) (A : List Lot) : List Lot := leastOf ((allLots ms).filter fun l => A.all fun a => !decide (com l a = []))
def woutL (A : List Lot) (d : Lot) : List Lot := leastOf (A.filter fun a => decide (com a d = []))
/-- hol looks at the names that count alone -/
theorem hol_congr {ms : Lot} {A : List Lot} (hA : ∀ a ∈ A, LotOf ms a) {x y : Lot} (h : ∀ n ∈ ms, n ∈ x ↔ n ∈ y) : hol A x = hol A y := by
  rw [Bool.eq_iff_iff, hol_iff, hol_iff]
  constructor
  · rintro ⟨a, ha, i⟩
    exact ⟨a, ha, inside_iff.mpr fun n q => (h n ((hA a ha).sub n q)).mp (inside_iff.mp i n q)⟩
  · rintro ⟨a, ha, i⟩
    exact ⟨a, ha, inside_iff.mpr fun n q => (h n ((hA a ha).sub n q)).mpr (inside_iff.mp i n q)⟩
structure FamL (ms : Lot) (A : List Lot) : Prop where
  ma : Asc ms
  can : Canon A
  lot : ∀ a ∈ A, LotOf ms a
theorem FamL.ext {ms : Lot} {A B : List Lot} (h : FamL ms A) (h' : FamL ms B) (e : ∀ x, LotOf ms x → hol A x = hol B x) : A = B := h.can.ext h'.can fun x hx => e x (hx.elim (h.lot x) (h'.lot x))
theorem FamL.of {ms : Lot} {xs : List Lot} (hm : Asc ms) (h : ∀ x ∈ xs, LotOf ms x) : FamL ms (leastOf xs) :=
  ⟨hm, leastOf_canon fun x q => (h x q).asc, fun x q => h x (leastOf_mem (fun x q => (h x q).asc) q)⟩
theorem FamL.and {ms : Lot} {A B : List Lot} (h : FamL ms A) (h' : FamL ms B) : FamL ms (andL A B) := FamL.of h.ma fun x q => by
  obtain ⟨a, ha, r⟩ := List.mem_flatMap.mp q
  obtain ⟨b, hb, rfl⟩ := List.mem_map.mp r
  exact ⟨mrg_asc a b, fun n z => (mem_mrg.mp z).elim ((h.lot a ha).sub n) ((h'.lot b hb).sub n)⟩
theorem FamL.or {ms : Lot} {A B : List Lot} (h : FamL ms A) (h' : FamL ms B) : FamL ms (orL A B) := FamL.of h.ma fun x q => (List.mem_append.mp q).elim (h.lot x) (h'.lot x)
theorem FamL.not {ms : Lot} {A : List Lot} (h : FamL ms A) : FamL ms (notL ms A) := FamL.of h.ma fun x q => (mem_allLots h.ma).mp (List.mem_filter.mp q).1
theorem LotOf.dif {ms x : Lot} (h : LotOf ms x) (d : Lot) : LotOf ms (EK.dif x d) := ⟨h.asc.filter _, fun n q => h.sub n (mem_dif.mp q).1⟩
theorem LotOf.all {ms : Lot} (h : Asc ms) : LotOf ms ms := ⟨h, fun _ q => q⟩
/-- not too many lots -/
theorem FamL.len {ms : Lot} {A : List Lot} (h : FamL ms A) (hn : ms ≠ []) : A.length ≤ 2 ^ (ms.length - 1) := by
  cases ms with
  | nil => exact absurd rfl hn
  | cons m r =>
    have nd : (A.map fun a => EK.dif a [m]).Nodup := by
      refine (List.pairwise_map).mpr ?_
      refine (List.Pairwise.and_mem.mp h.can.nodup).imp fun {a b} ⟨ha, hb, ne⟩ e => ne ?_
      have key : ∀ n, n ≠ m → (n ∈ a ↔ n ∈ b) := fun n q => by
        have := congrArg (fun z => n ∈ z) e
        simp only [mem_dif, List.mem_singleton, q, not_false_iff, and_true] at this
        exact iff_of_eq this
      by_cases hm : m ∈ a
      · refine (h.can.anti b hb a ha (inside_iff.mpr fun n q => ?_)).symm
        by_cases z : n = m
        · rw [z]; exact hm
        · exact (key n z).mpr q
      · refine h.can.anti a ha b hb (inside_iff.mpr fun n q => ?_)
        by_cases z : n = m
        · rw [z] at q; exact absurd q hm
        · exact (key n z).mp q
    have := len_le_of_sub (l' := subsF r [[]]) nd fun x hx => by
      obtain ⟨a, ha, rfl⟩ := List.mem_map.mp hx
      refine (mem_subsF r [[]] _).mpr ⟨[], .head _, _, LotOf.sublist (ms := r) ⟨(h.lot a ha).asc.filter _, fun n q => ?_⟩ (List.pairwise_cons.mp h.ma).2, rfl⟩
      obtain ⟨q1, q2⟩ := mem_dif.mp q
      rcases List.mem_cons.mp ((h.lot a ha).sub n q1) with z | z
      · exact absurd (List.mem_singleton.mpr z) q2
      · exact z
    rw [List.length_map, subsF_len] at this
    simpa using this
end EK


namespace EK
open PySem PySem.Spec PyProof.Rows L2

structure Shp (p : PyData) (n : Nat) : Prop where
  lay : p.canLay0 = true
  dep : p.depth ≤ n
theorem Shp.shaped {p : PyData} {n : Nat} (h : Shp p n) (l : n ≤ 64) : SeqAt.shaped p = true := by
  unfold SeqAt.shaped
  rw [h.lay, Bool.true_and]
  exact decide_eq_true (Nat.le_trans h.dep l)
theorem Shp.mono {p : PyData} {n k : Nat} (h : Shp p n) (l : n ≤ k) : Shp p k := ⟨h.lay, Nat.le_trans h.dep l⟩
theorem Shp.int (i : Int) : Shp (.int i) 0 := ⟨by simp [PyData.canLay0], by simp [PyData.depth]⟩
theorem Shp.bool (i : Bool) : Shp (.bool i) 0 := ⟨by simp [PyData.canLay0], by simp [PyData.depth]⟩
theorem Shp.none : Shp .none 0 := ⟨by simp [PyData.canLay0], by simp [PyData.depth]⟩
theorem Shp.str {x : Str} (h : PyData.strOk x = true) : Shp (.str x) 0 := ⟨by simpa [PyData.canLay0] using h, by simp [PyData.depth]⟩
theorem Shp.all {n : Nat} : ∀ {ps : List PyData}, (∀ p ∈ ps, Shp p n) → PyData.canLayAll0 ps = true ∧ PyData.depthAll ps ≤ n
  | [], _ => ⟨by simp [PyData.canLayAll0], by simp [PyData.depthAll]⟩
  | p :: ps, h => by
    have a := h p (.head _)
    have b := Shp.all fun q hq => h q (.tail _ hq)
    refine ⟨by rw [PyData.canLayAll0, a.lay, b.1]; rfl, ?_⟩
    rw [PyData.depthAll]
    exact Nat.max_le.mpr ⟨a.dep, b.2⟩
theorem Shp.tuple {n : Nat} {ps : List PyData} (h : ∀ p ∈ ps, Shp p n) : Shp (.tuple ps) (n + 1) :=
  ⟨by rw [PyData.canLay0]; exact (Shp.all h).1, by rw [PyData.depth]; exact Nat.succ_le_succ (Shp.all h).2⟩
theorem Shp.list {n : Nat} {ps : List PyData} (h : ∀ p ∈ ps, Shp p n) : Shp (.list ps) (n + 1) :=
  ⟨by rw [PyData.canLay0]; exact (Shp.all h).1, by rw [PyData.depth]; exact Nat.succ_le_succ (Shp.all h).2⟩
def EqF {α : Type} [DecidableEq α] (f : α → PyData) : Prop := ∀ a b, PyData.eqv (f a) (f b) = decide (a = b)
theorem EqF.str : EqF PyData.str := fun a b => by
  simp only [PyData.eqv]
  by_cases h : a = b
  · subst h; simp
  · simp [h]
theorem EqF.int : EqF PyData.int := fun a b => by
  simp only [PyData.eqv]
  by_cases h : a = b
  · subst h; simp
  · simp [h]
theorem EqF.bool : EqF PyData.bool := fun a b => by
  simp only [PyData.eqv]
  cases a <;> cases b <;> rfl
theorem EqF.all {α : Type} [DecidableEq α] {f : α → PyData} (h : EqF f) : ∀ a b : List α, PyData.eqvAll (a.map f) (b.map f) = decide (a = b)
  | [], [] => by simp [PyData.eqvAll]
  | [], _ :: _ => by simp [PyData.eqvAll]
  | _ :: _, [] => by simp [PyData.eqvAll]
  | x :: a, y :: b => by
    rw [List.map_cons, List.map_cons, PyData.eqvAll, h x y, EqF.all h a b]
    by_cases p : x = y <;> by_cases q : a = b <;> simp [p, q]
theorem EqF.tuple {α : Type} [DecidableEq α] {f : α → PyData} (h : EqF f) : EqF (fun xs : List α => PyData.tuple (xs.map f)) := fun a b => by
  simp only [PyData.eqv]
  exact h.all a b
theorem EqF.list {α : Type} [DecidableEq α] {f : α → PyData} (h : EqF f) : EqF (fun xs : List α => PyData.list (xs.map f)) := fun a b => by
  simp only [PyData.eqv]
  exact h.all a b
theorem toPs_map {α : Type} {g : α → D} {f : α → PyData} : ∀ (xs : List α), (∀ x ∈ xs, toP (g x) = some (f x)) → toPs (xs.map g) = some (xs.map f)
  | [], _ => rfl
  | x :: xs, h => by
    rw [List.map_cons, toPs, h x (.head _), Option.bind_some, toPs_map xs fun y hy => h y (.tail _ hy)]
    rfl
theorem p2_of {g : PyData → PyData → D} {a b : D} {p q : PyData} (ha : toP a = some p) (hb : toP b = some q) {n k : Nat} (sp : Shp p n) (sq : Shp q k) (hn : n ≤ 64) (hk : k ≤ 64) : p2 g a b = some (g p q) := by
  unfold p2
  rw [ha, hb, Option.bind_some, Option.bind_some, if_pos ⟨sp.shaped hn, sq.shaped hk⟩]

def eL (x : Lot) : D := .tup (x.map D.str)
def pL (x : Lot) : PyData := .tuple (x.map .str)
def NOk (x : Lot) : Prop := ∀ n ∈ x, PyData.strOk n = true
theorem toP_eL (x : Lot) : toP (eL x) = some (pL x) := by
  unfold eL pL
  rw [toP, toPs_map x fun _ _ => by rw [toP]]
  rfl
theorem shp_pL {x : Lot} (h : NOk x) : Shp (pL x) 1 := Shp.tuple fun p hp => by
  obtain ⟨n, hn, rfl⟩ := List.mem_map.mp hp
  exact Shp.str (h n hn)
def eLs (xs : List Lot) : D := .lst (xs.map eL)
def pLs (xs : List Lot) : PyData := .list (xs.map pL)
theorem toVs_str : ∀ x : Lot, toVs (x.map D.str) = some (x.map V.str)
  | [] => rfl
  | n :: x => by rw [List.map_cons, toVs, toV, Option.bind_some, toVs_str x]; rfl
theorem inV_str (n : Str) (x : Lot) : inV (.str n) (x.map V.str) = decide (n ∈ x) := by
  unfold inV
  induction x with
  | nil => rfl
  | cons y x ih =>
    rw [List.map_cons, List.any_cons, ih]
    show ((y == n) || _) = _
    by_cases h : n = y
    · subst h; simp
    · have h' : ¬ y = n := fun e => h e.symm
      simp [h, h']
theorem inD_eL (n : Str) (x : Lot) : inD (.str n) (eL x) = some (.bl (decide (n ∈ x))) := by
  unfold inD eL inB
  simp only [toV, Option.bind_some, toVs_str, Option.map_some, inV_str]
theorem bools_map {α : Type} (p : α → Bool) : ∀ xs : List α, bools (xs.map fun x => D.bl (p x)) = some (xs.map p)
  | [] => rfl
  | x :: xs => by rw [List.map_cons, bools, bools_map p xs]; rfl
theorem allD_map {α : Type} (p : α → Bool) (xs : List α) : allD [.lst (xs.map fun x => D.bl (p x))] = some (.bl (xs.all p)) := by
  rw [allD, bools_map, Option.map_some, List.all_map]
  rfl
def eLK (l : Lot) : D := .tup [.int l.length, eL l]
end EK


namespace EK
open PySem PySem.Spec PyProof.Rows L2 EKL
theorem addD_lst (a b : List D) (h : a.length + b.length ≤ PySem.sizeLine) : addD (.lst a) (.lst b) = some (.lst (a ++ b)) := by rw [addD, if_pos h]
theorem addD_tup (a b : List D) (h : a.length + b.length ≤ PySem.sizeLine) : addD (.tup a) (.tup b) = some (.tup (a ++ b)) := by rw [addD, if_pos h]
end EK


namespace EK
open PySem PySem.Spec PyProof.Rows L2 EKL
structure OkN (n : Str) : Prop where
  ok : PyData.strOk n = true
  nm : m_is_name [.str n] = ret (.bl true)
  len : n.length ≤ 6
def seqD (t : Bool) (xs : List D) : D := if t then .tup xs else .lst xs
theorem lenD_seqD (t : Bool) (xs : List D) : lenD [seqD t xs] = some (.int (xs.length : Int)) := by cases t <;> rfl
def isLotB (ms l : Lot) : Bool := l.all (fun n => decide (n ∈ ms)) && (l.zip (l.drop 1)).all fun p => sLt p.1 p.2
def fam (ms : Lot) (A : List Lot) : D := .obj "Family" ["own_machines", "own_least"] [eL ms, eLs A]
structure Fam (ms : Lot) (A : List Lot) : Prop extends FamL ms A where
  h1 : 1 ≤ ms.length
  h5 : ms.length ≤ 5
  nm : ∀ n ∈ ms, OkN n
theorem Fam.with {ms : Lot} {A B : List Lot} (h : Fam ms A) (h' : FamL ms B) : Fam ms B := ⟨h', h.h1, h.h5, h.nm⟩
theorem Fam.seq {ms : Lot} {A : List Lot} (h : Fam ms A) : eL ms = seqD true (ms.map D.str) := rfl
def narL (A B : List Lot) : Bool := A.all fun a => hol B a
end EK


namespace EK
open PySem PySem.Spec PyProof.Rows L2 EKL
/-- from a state -/
def Run {α : Type} (s : DS) (m : M α) (P : α → DS → Prop) : Prop := ∃ a s', m s = some (.ok a, s') ∧ P a s'
theorem Run.ret {α : Type} {s : DS} {a : α} {P : α → DS → Prop} (h : P a s) : Run s (EK.ret a) P := ⟨a, s, rfl, h⟩
theorem Run.bnd {α β : Type} {s : DS} {m : M α} {k : α → M β} {P : α → DS → Prop} {Q : β → DS → Prop} (h : Run s m P) (H : ∀ a s', P a s' → Run s' (k a) Q) : Run s (EK.bnd m k) Q := by
  obtain ⟨a, s1, e, p⟩ := h
  obtain ⟨b, s2, e2, q⟩ := H a s1 p
  refine ⟨b, s2, ?_, q⟩
  unfold EK.bnd
  rw [e]
  exact e2
theorem Run.eq {α β : Type} {s : DS} {a : α} {m : M α} {k : α → M β} {P : β → DS → Prop} (e : m s = some (.ok a, s)) (h : Run s (k a) P) : Run s (EK.bnd m k) P := by
  obtain ⟨b, s2, e2, q⟩ := h
  refine ⟨b, s2, ?_, q⟩
  unfold EK.bnd
  rw [e]
  exact e2
theorem Run.imp {α : Type} {s : DS} {m : M α} {P Q : α → DS → Prop} (h : Run s m P) (H : ∀ a s', P a s' → Q a s') : Run s m Q := by
  obtain ⟨a, s1, e, p⟩ := h
  exact ⟨a, s1, e, H a s1 p⟩
/-- a loop that leaves the state -/
theorem Run.forI {α : Type} {s : DS} (enc : α → D) (I : Sls → Prop) {a : SG} {b : SS} : ∀ (xs : List α) (G : Sls), I G →
    (∀ x ∈ xs, ∀ G, I G → ∃ G1, a G (enc x) = some G1 ∧ Run s (b G1) fun o s' => ∃ G2, o = .next G2 ∧ I G2 ∧ s' = s) → Run s (forM a b (xs.map enc) G) fun o s' => ∃ G2, o = .next G2 ∧ I G2 ∧ s' = s
  | [], G, h, _ => Run.ret ⟨G, rfl, h, rfl⟩
  | x :: xs, G, h, H => by
    obtain ⟨G1, e1, t⟩ := H x (.head _) G h
    rw [List.map_cons, forM, e1, ofO_some, bnd_ret]
    refine Run.bnd t fun o s' ⟨G2, e2, i, e3⟩ => ?_
    subst e2; subst e3
    exact Run.forI enc I xs G2 i fun y hy => H y (.tail _ hy)
theorem mulD_l {i j : Int} (h : -(2 ^ 64) < i ∧ i < 2 ^ 64) : mulD (.int i) (.int j) = some (.int (i * j)) := by
  show mulI (.int i) (.int j) = _
  unfold mulI iopC
  simp only
  rw [if_pos (decide_eq_true (.inl h))]
theorem mulD_r {i j : Int} (h : -(2 ^ 64) < j ∧ j < 2 ^ 64) : mulD (.int i) (.int j) = some (.int (i * j)) := by
  show mulI (.int i) (.int j) = _
  unfold mulI iopC
  simp only
  rw [if_pos (decide_eq_true (.inr h))]
theorem fdivD_of {i j : Int} (h : 0 < j ∧ j < 1073741824) : fdivD (.int i) (.int j) = some (.int (i / j)) := by
  unfold fdivD iopC
  simp only
  rw [if_pos (decide_eq_true h)]
theorem modD_of {i j : Int} (h : 0 < j) : modD (.int i) (.int j) = some (.int (i % j)) := by
  unfold modD iopC
  simp only
  rw [if_pos (decide_eq_true h)]
theorem powD_of {i j : Int} (h : 0 ≤ j ∧ j ≤ 1000000 ∧ i.natAbs < 2 ^ 64) : powD (.int i) (.int j) = some (.int (i ^ j.toNat)) := by
  unfold powD iopC
  simp only
  rw [if_pos (decide_eq_true h)]
theorem mixed_run {s : DS} (o : OkS s) (l : s.turn + 1 ≤ LIM) : Run s (m_law_mixed [.drw]) fun d s' => (∃ i, d = .int i ∧ 0 ≤ i) ∧ s' = { s with turn := s.turn + 1 } := by
  have ht := o.t
  unfold LIM at l
  simp! [m_law_mixed, b_law_mixed, gDr, sDr, drwAt]
  refine Run.eq (a := .int s.turn) rfl ?_
  simp! []
  refine Run.bnd (P := fun o s' => o = .next [some (.fz .drw), some (.fz (.int (s.turn + 1))), some (.fz (.int 0)), none, none, none] ∧ s' = { s with turn := s.turn + 1 }) ⟨_, _, rfl, rfl, rfl⟩ ?_
  rintro a s' ⟨rfl, rfl⟩
  simp! []
  rw [show [D.int 2147483647, D.int 2147483629, D.int 2147483587, D.int 2147483579] = ([2147483647, 2147483629, 2147483587, 2147483579] : List Int).map D.int from rfl]
  refine Run.bnd (Run.forI D.int (fun G => ∃ f u v w, 0 ≤ f ∧ G = [some (.fz .drw), some (.fz (.int (s.turn + 1))), some (.fz (.int f)), u, v, w]) _ _ ⟨0, none, none, none, by decide, rfl⟩ ?_) ?_
  · rintro p hp G ⟨f, u, v, w, hf, rfl⟩
    have hp : 0 < p ∧ p < 2147483648 := by
      simp only [List.mem_cons, List.not_mem_nil, or_false] at hp
      omega
    refine ⟨_, rfl, ?_⟩
    simp! [mulD_l (i := 40014) (j := s.turn + 1) (by omega), fdivD_of (i := p) (j := 19) (by omega), sForC, drwAt]
    refine Run.bnd (Run.forI D.int (fun G => ∃ b w, 0 ≤ b ∧ b < 2 ^ 63 ∧ G = [some (.fz .drw), some (.fz (.int (s.turn + 1))), some (.fz (.int f)), some (.fz (.int p)), some (.fz (.int b)), w]) _ _ ⟨40014 * (s.turn + 1) + p / 19, w, by omega, by omega, rfl⟩ ?_) ?_
    · rintro c hc G ⟨b, w, hb0, hb, rfl⟩
      refine ⟨_, rfl, ?_⟩
      simp! [mulD_r (i := b) (j := 48271) (by omega), modD_of hp.1]
      exact Run.ret ⟨_, rfl, ⟨_, _, Int.emod_nonneg _ (by omega), Int.lt_trans (Int.emod_lt_of_pos _ hp.1) (by omega), rfl⟩, rfl⟩
    · rintro a s' ⟨G2, rfl, ⟨b, w, hb0, hb, rfl⟩, rfl⟩
      simp! [mulD_r (i := f) (j := 2147483647) (by omega), powD_of (i := b) (j := 5) ⟨by omega, by omega, by omega⟩, modD_of hp.1]
      refine Run.ret ⟨_, rfl, ⟨_, _, _, _, ?_, rfl⟩, rfl⟩
      have := Int.emod_nonneg (b ^ (5 : Int).toNat) (show p ≠ 0 by omega)
      omega
  · rintro a s' ⟨G2, rfl, ⟨f, u, v, w, hf, rfl⟩, rfl⟩
    simp! []
    exact Run.ret ⟨⟨f, rfl, hf⟩, rfl⟩
theorem take_tr {k : Int} (h0 : 0 < k) (h1 : k < 1073741824) : Tr 1 (m_law_take [.drw, .int k]) fun d => ∃ i : Nat, d = .int i ∧ (i : Int) < k := by
  intro s o l
  have l' : s.turn + 1 ≤ LIM := l
  have key : Run s (m_law_take [.drw, .int k]) fun d s' => (∃ i : Nat, d = .int i ∧ (i : Int) < k) ∧ OkS s' ∧ s'.turn ≤ s.turn + 1 := by
    simp only [m_law_take, b_law_take, runB, startG, List.map_cons, List.map_nil, List.length_cons, List.length_nil, Nat.reduceAdd, Nat.reduceSub, List.replicate, List.cons_append, List.nil_append]
    rw [sSeq, bnd_assoc]
    refine Run.bnd (P := fun o s' => o = .next [some (.fz .drw), some (.fz (.int k)), none] ∧ OkS s' ∧ s'.turn ≤ s.turn + 1) ?_ ?_
    · simp! [gDr, sDr, drwAt]
      refine Run.eq (a := .int s.rest) rfl ?_
      simp! []
      split
      · refine Run.eq (a := decide (s.wide ≠ [])) rfl ?_
        cases hw : s.wide with
        | nil =>
          simp! [ne_eq, not_true_eq_false, decide_false]
          refine Run.bnd (mixed_run o l') ?_
          rintro a s' ⟨⟨i, rfl, hi⟩, rfl⟩
          exact ⟨_, _, rfl, rfl, ⟨o.w, o.c, hi, by have := o.t; show 0 ≤ s.turn + 1; omega⟩, by show s.turn + 1 ≤ _; omega⟩
        | cons x r =>
          simp! [ne_eq, List.cons_ne_nil, reduceCtorEq, not_false_eq_true]
          refine Run.bnd (P := fun d s' => d = .int x ∧ s' = { s with wide := r }) ⟨.int x, { s with wide := r }, by unfold popM; rw [hw], rfl, rfl⟩ ?_
          rintro a s' ⟨rfl, rfl⟩
          have hx := o.w x (by rw [hw]; exact .head _)
          exact ⟨_, _, rfl, rfl, ⟨fun y hy => o.w y (by rw [hw]; exact .tail _ hy), o.c, hx, o.t⟩, by show s.turn ≤ _; omega⟩
      · exact Run.ret ⟨rfl, o, by omega⟩
    · rintro a s' ⟨rfl, o', t'⟩
      simp! [gDr, sDr, drwAt]
      refine Run.eq (a := .int s'.rest) rfl ?_
      simp! [modD_of h0]
      refine Run.eq (a := .int s'.rest) rfl ?_
      simp! [fdivD_of ⟨h0, h1⟩]
      refine Run.bnd (P := fun o s'' => o = .next [some (.fz .drw), some (.fz (.int k)), some (.fz (.int (s'.rest % k)))] ∧ s'' = { s' with rest := s'.rest / k }) ⟨_, _, rfl, rfl, rfl⟩ ?_
      rintro a s'' ⟨rfl, rfl⟩
      simp! []
      have a0 := Int.emod_nonneg s'.rest (show k ≠ 0 by omega)
      have a1 := Int.emod_lt_of_pos s'.rest h0
      have a2 := Int.ediv_nonneg o'.r (show 0 ≤ k by omega)
      exact Run.ret ⟨⟨(s'.rest % k).toNat, by rw [Int.toNat_of_nonneg a0], by omega⟩, ⟨o'.w, o'.c, a2, o'.t⟩, t'⟩
  obtain ⟨d, s', e, h1, h2, h3⟩ := key
  exact ⟨d, s', e, h2, h3, h1⟩
end EK


namespace EK
open PySem PySem.Spec PyProof.Rows L2 EKL
theorem atI_nat {α : Type} {xs : List α} {i : Nat} (h : i < xs.length) : atI xs (i : Int) = some xs[i] := by
  unfold atI ixN
  rw [if_pos (by omega), if_pos (by omega), Option.bind_some, Int.toNat_natCast, List.getElem?_eq_getElem h]
theorem ixD_seqD {t : Bool} {xs : List D} {i : Nat} (h : i < xs.length) : ixD (seqD t xs) (.int (i : Int)) = some xs[i] := by
  cases t <;> exact atI_nat h
theorem pick_tr (t : Bool) {xs : List D} (h0 : xs ≠ []) (h1 : xs.length < 1073741824) : Tr 1 (m_law_pick [.drw, seqD t xs]) fun y => y ∈ xs := by
  simp! [m_law_pick, b_law_pick, lenD_seqD]
  have hp : 0 < xs.length := List.length_pos_iff.mpr h0
  refine Tr.le (Tr.bnd (take_tr (by omega) (by omega)) (j := 0) fun a ⟨i, e, hi⟩ => ?_) (by omega)
  subst e
  have hi' : i < xs.length := by omega
  simp! [ixD_seqD hi']
  exact Tr.ret (List.getElem_mem hi')
/-- data that can be compared -/
def Pl (d : D) : Prop := ∃ p, toP d = some p ∧ Shp p 60
theorem Pl.str {n : Str} (h : PyData.strOk n = true) : Pl (.str n) := ⟨.str n, by rw [toP], (Shp.str h).mono (by decide)⟩
theorem Pl.lot {x : Lot} (h : NOk x) : Pl (eL x) := ⟨pL x, toP_eL x, (shp_pL h).mono (by decide)⟩
def nameB (x : Str) : Bool := decide (1 ≤ x.length ∧ x.length ≤ 6) && x.cps.toList.all fun c => decide (c ∈ (Str.ofString "abcdefghijklmnopqrstuvwxyz").cps.toList)
theorem is_name_ok {x : Str} (h : nameB x = true) : m_is_name [.str x] = ret (.bl true) := by
  unfold nameB at h
  rw [Bool.and_eq_true, decide_eq_true_eq, List.all_eq_true] at h
  obtain ⟨⟨h1, h6⟩, hc⟩ := h
  have sz : x.cps.size = x.length := rfl
  simp! [m_is_name, b_is_name, isiD_str, show List.lookup "str" ([("NoneType", false), ("bool", false), ("int", false), ("str", true), ("tuple", false), ("list", false), ("dict", false)] : List (String × Bool)) = some true from rfl]
  rw [show lenD [.str x] = some (.int (x.length : Int)) by
    show ((if x.length ≤ PySem.sizeLine then some x.length else none).map fun (n : Nat) => D.int (n : Int)) = _
    rw [if_pos (by unfold PySem.sizeLine; omega)]
    rfl]
  simp! [if_pos (show (1 : Int) ≤ (x.length : Int) by omega), show (x.length : Int) ≤ 6 by omega]
  rw [show itemsOf (.str x) = some (x.cps.toList.map fun c => .str ⟨#[c]⟩) by
    show (if x.cps.size ≤ 1000000 then some (chars x) else none) = _
    rw [if_pos (by omega)]
    rfl]
  simp! []
  rw [lcM_map (fun c : Nat => D.str ⟨#[c]⟩) (fun _ => .bl true) x.cps.toList fun c hm => by
    simp! []
    rw [show inD (.str ⟨#[c]⟩) (.str (Str.ofString "abcdefghijklmnopqrstuvwxyz")) = some (.bl (decide (c ∈ (Str.ofString "abcdefghijklmnopqrstuvwxyz").cps.toList))) from rfl, hc c hm]
    simp! []]
  simp! [allD_map, show (x.cps.toList.all fun _ => true) = true by simp]
def labels13 : Lot := ["a", "b", "c", "ab", "x", "lazy", "none", "zzzzzz", "promis", "fall", "take", "lead", "entry"].map Str.ofString
/-- drawn names -/
structure Names (x : Lot) : Prop where
  asc : Asc x
  h1 : 1 ≤ x.length
  h5 : x.length ≤ 5
  nm : ∀ n ∈ x, OkN n
end EK


namespace EK
open PySem PySem.Spec PyProof.Rows L2 EKL
theorem Names.fam {ms : Lot} {A : List Lot} (h : Names ms) (f : FamL ms A) : Fam ms A := ⟨f, h.h1, h.h5, h.nm⟩
theorem Names.lotok {ms x : Lot} (h : Names ms) (f : LotOf ms x) : NOk x := fun n q => (h.nm n (f.sub n q)).ok
theorem upFrom_map (n : Nat) : upFrom 0 n = (List.range n).map fun (i : Nat) => D.int (i : Int) := by
  unfold upFrom
  congr 1
  funext i
  rw [Int.zero_add]
theorem rng1_nat {n : Nat} (h : n < 1000000) : rng1 [.int (n : Int)] = some ((List.range n).map fun (i : Nat) => D.int (i : Int)) := by
  rw [rng1, if_pos ⟨by omega, by omega⟩, Int.toNat_natCast, upFrom_map]
theorem rng1_int {i : Int} {n : Nat} (e : i = (n : Int)) (h : n < 1000000) : rng1 [.int i] = some ((List.range n).map fun (i : Nat) => D.int (i : Int)) := by rw [e, rng1_nat h]
end EK


namespace EK
open PySem PySem.Spec PyProof.Rows L2 EKL
theorem Fam.and {ms : Lot} {A B : List Lot} (h : Fam ms A) (h' : Fam ms B) : Fam ms (andL A B) := h.with (h.toFamL.and h'.toFamL)
theorem Fam.or {ms : Lot} {A B : List Lot} (h : Fam ms A) (h' : Fam ms B) : Fam ms (orL A B) := h.with (h.toFamL.or h'.toFamL)
theorem Fam.not {ms : Lot} {A : List Lot} (h : Fam ms A) : Fam ms (notL ms A) := h.with h.toFamL.not
theorem Fam.ext {ms : Lot} {A B : List Lot} (h : Fam ms A) (h' : Fam ms B) (e : ∀ x, LotOf ms x → hol A x = hol B x) : A = B := h.toFamL.ext h'.toFamL e
theorem Fam.dd {ms : Lot} {A : List Lot} (h : Fam ms A) (x : Lot) : hol A (dif ms (dif ms x)) = hol A x := hol_congr h.lot fun n hn => by
  rw [mem_dif, mem_dif]
  constructor
  · rintro ⟨_, q⟩
    exact Classical.byContradiction fun z => q ⟨hn, z⟩
  · exact fun q => ⟨hn, fun z => z.2 q⟩
section
variable {ms : Lot} {A B C : List Lot} (a : Fam ms A) (b : Fam ms B) (c : Fam ms C)
include a b c
end
end EK


namespace EKL
open PySem PySem.Spec PyProof.Rows L2 EK
def b_meets : SS := (sSeq (sExpr (gCall 2 m_need_two (saC (gv 0) (saC (gv 1) sa0)))) (sRet (gCall 1 m_least_of (saC (gLO (gLc2 [2, 3] [3] (gIt (gFld "Family" "own_least" (gv 0))) (sgN 2) yes (gIt (gFld "Family" "own_least" (gv 1))) (sgN 3) yes (gCall 2 m_common (saC (gv 2) (saC (gv 3) sa0))))) sa0))))
def m_meets : List D → M D := runB 4 b_meets
def b_overlap : SS := (sSeq (sAsg (gCall 2 m_meets (saC (gv 0) (saC (gv 1) sa0))) (sgN 2)) (sRet (vIf (tB' (g2 neD (gv 2) (gLst sa0))) (gC lenD (saC (g2 ixD (gv 2) (fun _ => ret (.int 0))) sa0)) (fun _ => ret .non))))
def m_overlap : List D → M D := runB 3 b_overlap
def b_Family_least : SS := (sRet (gC listD (saC (gFld "Family" "own_least" (gv 0)) sa0)))
def m_Family_least : List D → M D := runB 1 b_Family_least
def b_law_shared : SS := (sRet (gC tupleD (saC (gLO (gLc [2] (gIt (gv 0)) (sgN 2) (tB' (g2 inD (gv 2) (gv 1))) (gv 2))) sa0)))
def m_law_shared : List D → M D := runB 3 b_law_shared
def b_is_number : SS := (sRet (vAnd (g1 (isiD [] fun t => List.lookup t ([("NoneType", false), ("bool", true), ("int", true), ("str", false), ("tuple", false), ("list", false), ("dict", false)] : List (String × Bool))) (gv 0)) (vNot (g1 (isiD [] fun t => List.lookup t ([("NoneType", false), ("bool", true), ("int", false), ("str", false), ("tuple", false), ("list", false), ("dict", false)] : List (String × Bool))) (gv 0)))))
def m_is_number : List D → M D := runB 1 b_is_number
def b_is_within : SS := (sRet (vAnd (gCall 1 m_is_number (saC (gv 0) sa0)) (g3 leI leI (gv 1) (gv 0) (gv 2))))
def m_is_within : List D → M D := runB 3 b_is_within
def b_partner : SS := (sSeq (sExpr (gCallD 2 m_need_family [.str "family"] (saC (gv 0) sa0))) (sSeq (sIf (bNot (tB' (gCall 3 m_is_within (saC (gv 1) (saC (fun _ => ret (.int 0)) (saC (fun _ => ret (.int 5)) sa0)))))) (sThrow1 "BadCount" "count" (gv 1)) sNil) (sSeq (sPar 2 3 (slF (gFld "Family" "own_machines" (gv 0))) (slO (gLD sa0))) (sSeq (sFor (gIt (gCall 1 m_lots_in_order (saC (gv 2) sa0))) (sgN 4) (sIf (tB' (gC allD (saC (gLO (gLc [5] (gIt (gFld "Family" "own_least" (gv 0))) (sgN 5) yes (g2 gtI (gC lenD (saC (gCall 2 m_common (saC (gv 4) (saC (gv 5) sa0))) sa0)) (gv 1)))) sa0))) (sApp 3 (gv 4)) sNil)) (sFrz 3 (sRet (gMake "Family" 2 m_Family___init__ (saC (gv 2) (saC (gCall 1 m_least_of (saC (gv 3) sa0)) sa0)))))))))
def m_partner : List D → M D := runB 6 b_partner
end EKL


namespace EK
open PySem PySem.Spec PyProof.Rows L2 EKL
theorem LotOf.com {ms a : Lot} (h : LotOf ms a) (b : Lot) : LotOf ms (EK.com a b) := ⟨h.asc.filter _, fun n q => h.sub n (mem_com.mp q).1⟩
def pairsL (A B : List Lot) : List Lot := A.flatMap fun a => B.map fun b => com a b
def meetL (A B : List Lot) : List Lot := leastOf (pairsL A B)
section
variable {ms : Lot} {A B : List Lot} (h : Fam ms A) (h' : Fam ms B)
include h h'
end
def partL (ms : Lot) (A : List Lot) (k : Nat) : List Lot := leastOf ((allLots ms).filter fun l => A.all fun a => decide (k < (com l a).length))
/-- how many machines the smallest meet has -/
def ovl (M : List Lot) : Option Nat := M.head?.map List.length
def dueB (o : Option Nat) (k : Nat) : Bool := match o with
  | none => true
  | some n => decide (k < n)
def ovD : Option Nat → D
  | none => .non
  | some n => .int n
end EK



namespace EK
open PySem PySem.Spec PyProof.Rows L2
/-- can be shown, in at most w signs, at most n deep -/
structure Sh (p : PyData) (w n : Nat) : Prop where
  sh : p.showable = true
  len : p.shown.length ≤ w
  dep : p.depth ≤ n
  nd : p.hasDict = false
theorem Sh.mono {p : PyData} {w n w' n' : Nat} (h : Sh p w n) (hw : w ≤ w') (hn : n ≤ n') : Sh p w' n' := ⟨h.sh, Nat.le_trans h.len hw, Nat.le_trans h.dep hn, h.nd⟩
theorem Sh.none : Sh .none 4 0 := ⟨rfl, by decide, by simp [PyData.depth], by simp [PyData.hasDict]⟩
theorem Sh.bool (b : Bool) : Sh (.bool b) 5 0 := ⟨by cases b <;> rfl, by cases b <;> decide, by simp [PyData.depth], by simp [PyData.hasDict]⟩
theorem Sh.str {x : Str} (h : PyData.strOk x = true) : Sh (.str x) (10 * x.length + 2) 0 := ⟨by simp [PyData.showable], by
  refine StrLaws.reprText_len x fun c hc => ?_
  have : c < 0x110000 := by
    unfold PyData.strOk at h
    rw [Array.all_eq_true'] at h
    simpa using h c (by simpa using hc)
  omega, by simp [PyData.depth], by simp [PyData.hasDict]⟩
theorem Sh.all {w n : Nat} : ∀ {ps : List PyData}, (∀ p ∈ ps, Sh p w n) → PyData.showableAll ps = true ∧ ((PyData.shownAll ps).map (·.length)).sum ≤ w * ps.length ∧ PyData.depthAll ps ≤ n ∧ PyData.hasDictAll ps = false
  | [], _ => ⟨by simp [PyData.showableAll], by simp [PyData.shownAll], by simp [PyData.depthAll], by simp [PyData.hasDictAll]⟩
  | p :: ps, h => by
    obtain ⟨a, b, c, d⟩ := Sh.all fun q hq => h q (.tail _ hq)
    have z := h p (.head _)
    refine ⟨by simp [PyData.showableAll, z.sh, a], ?_, ?_, by simp [PyData.hasDictAll, z.nd, d]⟩
    · have := z.len
      simp only [PyData.shownAll, List.map_cons, List.sum_cons, List.length_cons, Nat.mul_succ]
      omega
    · have := z.dep
      simp only [PyData.depthAll]
      omega
theorem shownAll_len (ps : List PyData) : (PyData.shownAll ps).length = ps.length := by
  induction ps with
  | nil => simp [PyData.shownAll]
  | cons p ps ih => simp [PyData.shownAll, ih]
theorem Sh.list {w n : Nat} {ps : List PyData} (h : ∀ p ∈ ps, Sh p w n) : Sh (.list ps) (w * ps.length + 2 * ps.length + 3) (n + 1) := by
  obtain ⟨a, b, c, d⟩ := Sh.all h
  refine ⟨by simpa [PyData.showable] using a, ?_, by simp only [PyData.depth]; omega, by simpa [PyData.hasDict] using d⟩
  have := listText_len_le (PyData.shownAll ps)
  rw [shownAll_len] at this
  simp only [PyData.shown]
  omega
theorem Sh.tuple {w n : Nat} {ps : List PyData} (h : ∀ p ∈ ps, Sh p w n) : Sh (.tuple ps) (w * ps.length + 2 * ps.length + 3) (n + 1) := by
  obtain ⟨a, b, c, d⟩ := Sh.all h
  refine ⟨by simpa [PyData.showable] using a, ?_, by simp only [PyData.depth]; omega, by simpa [PyData.hasDict] using d⟩
  have := tupleText_len_le (PyData.shownAll ps)
  rw [shownAll_len] at this
  simp only [PyData.shown]
  omega
theorem log2_of {n k : Nat} (h : n < 2 ^ k) (hk : 0 < k) : n.log2 < k := by
  by_cases z : n = 0
  · subst z; simpa using hk
  · exact (Nat.log2_lt z).mpr h
theorem Sh.int {i : Int} {k : Nat} (h : i.natAbs < 10 ^ k) (hk : 0 < k) (h' : k ≤ 570) : Sh (.int i) (k + 1) 0 := ⟨by
  have : i.natAbs < 2 ^ 1900 := Nat.lt_of_lt_of_le h (Nat.le_trans (Nat.pow_le_pow_right (by decide) h') (by decide +kernel))
  have := log2_of this (by decide)
  simp only [PyData.showable, decide_eq_true_eq]
  omega, by
  have e := int_text_length_le10 hk h
  simp only [PyData.shown]
  show (Str.ofString (toString i)).length ≤ _
  rw [PySem.ofString_length]; exact e, by simp [PyData.depth], by simp [PyData.hasDict]⟩
theorem reprD_of {d : D} {p : PyData} {w n : Nat} (h : toR d = some p) (s : Sh p w n) (hw : w ≤ 16000000) (hn : n ≤ 60) : reprD [d] = some (.str p.shown) := by
  show (toR d).bind showP = _
  rw [h, Option.bind_some, showP, if_pos ⟨s.sh, by have := s.len; rw [sizeLine_eq]; omega, Nat.le_trans s.dep hn, s.nd⟩]
theorem neS_str (x y : Str) : neS (.str x) (.str y) = some (.bl (!decide (x = y))) := rfl
structure Sm (n : Str) : Prop where
  ok : PyData.strOk n = true
  len : n.length ≤ 6
end EK


namespace EKL
open PySem PySem.Spec PyProof.Rows L2 EK
def b_law_enough : SS := (sRet (g2 neD (gLO (gLc [2] (gIt (gv 0)) (sgN 2) (tB' (gCall 2 m_law_has_all (saC (gv 1) (saC (gv 2) sa0)))) (gv 2))) (gLst sa0)))
def m_law_enough : List D → M D := runB 3 b_law_enough
def b_law_all_enough : SS := (sRet (gLO (gLc [2] (gIt (gCall 1 m_law_heaps (saC (gv 0) sa0))) (sgN 2) (tB' (gCall 2 m_law_enough (saC (gv 1) (saC (gv 2) sa0)))) (gv 2))))
def m_law_all_enough : List D → M D := runB 3 b_law_all_enough
def b_Family_machines : SS := (sRet (gFld "Family" "own_machines" (gv 0)))
def m_Family_machines : List D → M D := runB 1 b_Family_machines
def b_law_is_clan : SS := (sRet (g2 eqS (gC reprD (saC (gLst (saC (gProp "Family" m_Family_machines (gv 0)) (saC (gProp "Family" m_Family_least (gv 0)) (saC (gCM (lenC "Family" m_Family___len__) (saC (gv 0) sa0)) sa0)))) sa0)) (gC reprD (saC (gLst (saC (gC tupleD (saC (gv 1) sa0)) (saC (gv 2) (saC (gC lenD (saC (gv 2) sa0)) sa0)))) sa0))))
def m_law_is_clan : List D → M D := runB 3 b_law_is_clan
def b_Family_all_lots : SS := (sRet (gLO (gLc [1] (gIt (gCall 1 m_lots_in_order (saC (gFld "Family" "own_machines" (gv 0)) sa0))) (sgN 1) (tB' (gCall 2 m_holds (saC (gv 0) (saC (gv 1) sa0)))) (gv 1))))
def m_Family_all_lots : List D → M D := runB 2 b_Family_all_lots
end EKL


namespace EK
open PySem PySem.Spec PyProof.Rows L2 EKL
theorem Tr.pre {α : Type} (enc : α → D) (I : List α → Sls → Prop) {a : SG} {b : SS} {xs : List α} {G : Sls} {Q : Out → Prop} (h0 : I [] G)
    (H : ∀ p x r, xs = p ++ x :: r → ∀ G, I p G → ∃ G1 G2, a G (enc x) = some G1 ∧ b G1 = EK.ret (.next G2) ∧ I (p ++ [x]) G2) (hq : ∀ G', I xs G' → Q (.next G')) : Tr 0 (forM a b (xs.map enc) G) Q := by
  obtain ⟨G', e, i⟩ := forM_pre enc I h0 H
  rw [e]
  exact Tr.ret (hq G' i)
def enoughs (ms : Lot) (L : List Lot) : List Lot := (allLots ms).filter (hol L)
theorem Names.sm {ms : Lot} (h : Names ms) : ∀ n ∈ ms, Sm n := fun n hn => ⟨(h.nm n hn).ok, (h.nm n hn).len⟩
theorem toR_eq (d : D) : toR d = toP d := rfl
def ab : Lot := [Str.ofString "a", Str.ofString "b"]
end EK


namespace EK
open PySem PySem.Spec PyProof.Rows L2 EKL
theorem ds0_ok (ns : List Int) : OkS (ds0 ns) := by
  refine ⟨fun x hx => ?_, fun x hx => ?_, by show (0 : Int) ≤ 0; omega, by show (0 : Int) ≤ 0; omega⟩
  · obtain ⟨g, hg, rfl⟩ := List.mem_map.mp (show x ∈ wideOf ns from hx)
    have := (List.mem_filter.mp hg).2
    simp only [decide_eq_true_eq] at this
    omega
  · obtain ⟨g, hg, rfl⟩ := List.mem_map.mp (show x ∈ cellsOf ns from hx)
    have h1 := Int.emod_nonneg (absI g) (show (2147483629 : Int) ≠ 0 by decide)
    have h2 := Int.emod_lt_of_pos (absI g) (show (0 : Int) < 2147483629 by decide)
    omega
/-- the answers of isinstance(x, C), C a class of the text, for data -/
def kitOwn : List (String × Bool) := [("NoneType", false), ("bool", false), ("int", false), ("str", false), ("tuple", false), ("list", false), ("dict", false)]
def noFam (d : D) : Prop := isiD [("Family", true)] (fun t => List.lookup t kitOwn) d = some (.bl false)
def notIn05 (d : D) : Prop := m_is_within [d, .int 0, .int 5] = EK.ret (.bl false)
theorem catch_exc (kx : List Str) (c : Str) (ns : List Str) (xs : List D) (h : kx.contains c = true) : catchM kx (EK.throw ⟨c, ns, xs⟩) = EK.ret (.exc c ns xs) := catchM_throw kx ⟨c, ns, xs⟩ h
theorem isiXD_exc (cx cs : List (Str × Bool)) (f : String → Option Bool) (c : Str) (ns : List Str) (xs : List D) : isiXD cx cs f (.exc c ns xs) = (cx.lookup c).map .bl := rfl
theorem fldXD_exc (cl : List Str) (n c : Str) (ns : List Str) (xs : List D) : fldXD cl n (.exc c ns xs) = if cl.contains c then (ns.zip xs).lookup n else none := rfl
end EK


namespace EKL
open PySem PySem.Spec PyProof.Rows L2 EK
def bN_Family_all_lots : SN := (gLc [1] (gIt (gCall 1 m_lots_in_order (saC (gFld "Family" "own_machines" (gv 0)) sa0))) (sgN 1) (tB' (gCall 2 m_holds (saC (gv 0) (saC (gv 1) sa0)))) (gv 1))
def mN_Family_all_lots : List D → M (List D) := runN 2 bN_Family_all_lots
def bN_Family_least : SN := (gLO1 listD (saC (gFld "Family" "own_least" (gv 0)) sa0))
def mN_Family_least : List D → M (List D) := runN 1 bN_Family_least
end EKL


namespace EK
open PySem PySem.Spec PyProof.Rows L2 EKL
def qq : Str := Str.ofString "qq"
def noLot (ms : Lot) (d : D) : Prop := m_is_lot [eL ms, d] = EK.ret (.bl false)
end EK


namespace EKL
open PySem PySem.Spec PyProof.Rows L2 EK
def b_law_word_pair : SS := (sSeq (sIf (tB' (g2 eqD (gCall 2 m_law_take (saC (gv 0) (saC (fun _ => ret (.int 3)) sa0))) (fun _ => ret (.int 0)))) (sRet (EK.gTup (saC (fun _ => ret (.str "forced")) (saC (fun _ => ret (.str "forced")) (saC (fun _ => ret (.str "at once")) sa0))))) sNil) (sSeq (sAsg (gLst (saC (fun _ => ret (.str "none")) (saC (fun _ => ret (.str "lazy")) (saC (fun _ => ret (.str "forced")) (saC (fun _ => ret (.str "forced")) sa0))))) (sgN 1)) (sRet (EK.gTup (saC (gCall 2 m_law_pick (saC (gv 0) (saC (gv 1) sa0))) (saC (gCall 2 m_law_pick (saC (gv 0) (saC (gv 1) sa0))) (saC (gCall 2 m_law_pick (saC (gv 0) (saC (g2 addD (g2 mulD (gLst (saC (fun _ => ret (.str "at once")) sa0)) (fun _ => ret (.int 5))) (gLst (saC (fun _ => ret (.str "barred")) sa0))) sa0))) sa0)))))))
def m_law_word_pair : List D → M D := runB 2 b_law_word_pair
def b_is_of : SS := (sRet (vAnd (g1 (isiD [] fun t => List.lookup t ([("NoneType", false), ("bool", false), ("int", false), ("str", true), ("tuple", false), ("list", false), ("dict", false)] : List (String × Bool))) (gv 0)) (g2 inD (gv 0) (gv 1))))
def m_is_of : List D → M D := runB 2 b_is_of
def b_Hand___init__ : SS := (sSeq (sFor (gIt (gLst (saC (EK.gTup (saC (fun _ => ret (.str "promise")) (saC (gv 1) (saC (gTupS ["none", "lazy", "forced"]) sa0)))) (saC (EK.gTup (saC (fun _ => ret (.str "entry")) (saC (gv 2) (saC (gTupS ["none", "lazy", "forced"]) sa0)))) (saC (EK.gTup (saC (fun _ => ret (.str "back")) (saC (gv 3) (saC (gTupS ["at once", "barred"]) sa0)))) sa0))))) (sgT (sgCons (sgN 4) (sgCons (sgN 5) (sgCons (sgN 6) sgNil)))) (sIf (bNot (tB' (gCall 2 m_is_of (saC (gv 5) (saC (gv 6) sa0))))) (sThrow1 "BadHand" "part" (gv 4)) sNil)) (sSeq (sFldC "Hand" "own_promise" (gv 1)) (sSeq (sFldC "Hand" "own_entry" (gv 2)) (sFldC "Hand" "own_back" (gv 3)))))
def m_Hand___init__ : List D → M (List Str × List D) := runI "Hand" 7 b_Hand___init__
def b_is_term : SS := (sRet (vAnd (gCall 1 m_is_number (saC (gv 0) sa0)) (g3 leI leI (fun _ => ret (.int 1)) (gv 0) (fun _ => ret (.int 99)))))
def m_is_term : List D → M D := runB 1 b_is_term
def b_is_pair : SS := (sRet (vAnd (g1 (isiD [] fun t => List.lookup t ([("NoneType", false), ("bool", false), ("int", false), ("str", false), ("tuple", true), ("list", false), ("dict", false)] : List (String × Bool))) (gv 0)) (vAnd (g2 eqD (gC lenD (saC (gv 0) sa0)) (fun _ => ret (.int 2))) (vAnd (gCall 1 m_is_term (saC (g2 ixD (gv 0) (fun _ => ret (.int 0))) sa0)) (gCall 1 m_is_name (saC (g2 ixD (gv 0) (fun _ => ret (.int 1))) sa0))))))
def m_is_pair : List D → M D := runB 1 b_is_pair
def b_is_record : SS := (sSeq (sIf (bOr (bNot (tB' (g1 (isiD [] fun t => List.lookup t ([("NoneType", false), ("bool", false), ("int", false), ("str", false), ("tuple", true), ("list", false), ("dict", false)] : List (String × Bool))) (gv 0)))) (bOr (tB' (g2 ltI (gC lenD (saC (gv 0) sa0)) (fun _ => ret (.int 2)))) (bNot (tB' (g1 (isiD [] fun t => List.lookup t ([("NoneType", false), ("bool", false), ("int", false), ("str", true), ("tuple", false), ("list", false), ("dict", false)] : List (String × Bool))) (g2 ixD (gv 0) (fun _ => ret (.int 0)))))))) (sRet (fun _ => ret (.bl false))) sNil) (sSeq (sIf (tB' (g2 eqD (g2 ixD (gv 0) (fun _ => ret (.int 0))) (fun _ => ret (.str "promise")))) (sRet (vAnd (g2 eqD (gC lenD (saC (gv 0) sa0)) (fun _ => ret (.int 2))) (gCall 1 m_is_term (saC (g2 ixD (gv 0) (fun _ => ret (.int 1))) sa0)))) sNil) (sRet (vAnd (g2 eqD (g2 ixD (gv 0) (fun _ => ret (.int 0))) (fun _ => ret (.str "entry"))) (gCall 1 m_is_pair (saC (gSl (gv 0) (oSome (fun _ => ret (.int 1))) oNone) sa0))))))
def m_is_record : List D → M D := runB 1 b_is_record
def b_fits : SS := (sRet (gC allD (saC (gLO (gLc [2] (gIt (gv 0)) (sgN 2) (bAnd (tB' (g3 eqD eqD (g2 ixD (gv 2) (fun _ => ret (.int 0))) (g2 ixD (gv 1) (fun _ => ret (.int 0))) (fun _ => ret (.str "entry")))) (tB' (g2 eqD (g2 ixD (gv 2) (fun _ => ret (.int 1))) (g2 ixD (gv 1) (fun _ => ret (.int 1)))))) (g2 eqD (g2 ixD (gv 2) (fun _ => ret (.int 2))) (g2 ixD (gv 1) (fun _ => ret (.int 2)))))) sa0)))
def m_fits : List D → M D := runB 3 b_fits
def b_are_records : SS := (sSeq (sIf (bOr (bNot (tB' (g1 (isiD [] fun t => List.lookup t ([("NoneType", false), ("bool", false), ("int", false), ("str", false), ("tuple", true), ("list", false), ("dict", false)] : List (String × Bool))) (gv 0)))) (bNot (tB' (gC allD (saC (gLO (gLc [1] (gIt (gv 0)) (sgN 1) yes (gCall 1 m_is_record (saC (gv 1) sa0)))) sa0))))) (sRet (fun _ => ret (.bl false))) sNil) (sRet (gC allD (saC (gLO (gLc [2, 1] (gItC enumA (saC (gv 0) sa0)) (sgT (sgCons (sgN 2) (sgCons (sgN 1) sgNil))) yes (vAnd (g2 ninX (gv 1) (gSl (gv 0) oNone (oSome (gv 2)))) (gCall 2 m_fits (saC (gSl (gv 0) oNone (oSome (gv 2))) (saC (gv 1) sa0)))))) sa0))))
def m_are_records : List D → M D := runB 3 b_are_records
def b_is_log : SS := (sSeq (sIf (bOr (bNot (tB' (g1 (isiD [] fun t => List.lookup t ([("NoneType", false), ("bool", false), ("int", false), ("str", false), ("tuple", true), ("list", false), ("dict", false)] : List (String × Bool))) (gv 0)))) (bOr (tB' (g2 neD (gC lenD (saC (gv 0) sa0)) (fun _ => ret (.int 2)))) (bNot (tB' (gCall 1 m_are_records (saC (g2 ixD (gv 0) (fun _ => ret (.int 0))) sa0)))))) (sRet (fun _ => ret (.bl false))) sNil) (sRet (vAnd (gCall 1 m_is_number (saC (g2 ixD (gv 0) (fun _ => ret (.int 1))) sa0)) (g3 leI leI (fun _ => ret (.int 0)) (g2 ixD (gv 0) (fun _ => ret (.int 1))) (gC lenD (saC (g2 ixD (gv 0) (fun _ => ret (.int 0))) sa0))))))
def m_is_log : List D → M D := runB 1 b_is_log
def b_need_log : SS := (sIf (bNot (tB' (gCall 1 m_is_log (saC (gv 0) sa0)))) (sThrow0 "BadLog") sNil)
def m_need_log : List D → M D := runB 1 b_need_log
def b_written_by : SS := (sSeq (sAsg (gv 1) (sgT (sgCons (sgN 3) (sgCons (sgN 4) sgNil)))) (sSeq (sAsg (vIf (tB' (g2 eqD (g2 ixD (gv 2) (fun _ => ret (.int 0))) (fun _ => ret (.str "promise")))) (gFld "Hand" "own_promise" (gv 0)) (gFld "Hand" "own_entry" (gv 0))) (sgN 5)) (sSeq (sIf (bOr (tB' (g2 eqD (gv 5) (fun _ => ret (.str "none")))) (tB' (g2 inX (gv 2) (gv 3)))) (sRet (gv 1)) sNil) (sRet (EK.gTup (saC (EK.gTup (saS (gv 3) (saC (gv 2) sa0))) (saC (vIf (tB' (g2 eqD (gv 5) (fun _ => ret (.str "forced")))) (g2 addD (gC lenD (saC (gv 3) sa0)) (fun _ => ret (.int 1))) (gv 4)) sa0)))))))
def m_written_by : List D → M D := runB 6 b_written_by
def b_written : SS := (sSeq (sIf (bNot (tB' (g1 (isiD [("Hand", true)] fun t => List.lookup t ([("NoneType", false), ("bool", false), ("int", false), ("str", false), ("tuple", false), ("list", false), ("dict", false)] : List (String × Bool))) (gv 0)))) (sThrow1 "BadHand" "part" (fun _ => ret (.str "hand"))) sNil) (sSeq (sExpr (gCall 1 m_need_log (saC (gv 1) sa0))) (sSeq (sIf (bOr (bNot (tB' (gCall 1 m_is_record (saC (gv 2) sa0)))) (bNot (tB' (gCall 2 m_fits (saC (g2 ixD (gv 1) (fun _ => ret (.int 0))) (saC (gv 2) sa0)))))) (sThrow0 "BadRecord") sNil) (sRet (gCall 3 m_written_by (saC (gv 0) (saC (gv 1) (saC (gv 2) sa0))))))))
def m_written : List D → M D := runB 3 b_written
def b_may_forget : SS := (sSeq (sIf (bNot (tB' (g1 (isiD [("Hand", true)] fun t => List.lookup t ([("NoneType", false), ("bool", false), ("int", false), ("str", false), ("tuple", false), ("list", false), ("dict", false)] : List (String × Bool))) (gv 0)))) (sThrow1 "BadHand" "part" (fun _ => ret (.str "hand"))) sNil) (sSeq (sIf (tB' (g2 eqD (gFld "Hand" "own_back" (gv 0)) (fun _ => ret (.str "barred")))) (sRet (EK.gTup sa0)) sNil) (sSeq (sAsg (gLst (saC (EK.gTup (saC (fun _ => ret (.str "entry")) (saC (gFld "Hand" "own_entry" (gv 0)) sa0))) (saC (EK.gTup (saC (fun _ => ret (.str "promise")) (saC (gFld "Hand" "own_promise" (gv 0)) sa0))) sa0))) (sgN 1)) (sRet (gC tupleD (saC (gLO (gLc [2, 3] (gIt (gv 1)) (sgT (sgCons (sgN 2) (sgCons (sgN 3) sgNil))) (tB' (g2 neD (gv 3) (fun _ => ret (.str "forced")))) (gv 2))) sa0))))))
def m_may_forget : List D → M D := runB 4 b_may_forget
def b_leavings : SS := (sRet (gLO (gItC asI2 (saC (g2 ixD (gv 0) (fun _ => ret (.int 1))) (saC (g2 addD (gC lenD (saC (g2 ixD (gv 0) (fun _ => ret (.int 0))) sa0)) (fun _ => ret (.int 1))) sa0)))))
def m_leavings : List D → M D := runB 1 b_leavings
def bN_leavings : SN := (gItC asI2 (saC (g2 ixD (gv 0) (fun _ => ret (.int 1))) (saC (g2 addD (gC lenD (saC (g2 ixD (gv 0) (fun _ => ret (.int 0))) sa0)) (fun _ => ret (.int 1))) sa0)))
def mN_leavings : List D → M (List D) := runN 1 bN_leavings
def b_can_leave : SS := (sSeq (sExpr (gCall 1 m_need_log (saC (gv 0) sa0))) (sRet (gCall 1 m_leavings (saC (gv 0) sa0))))
def m_can_leave : List D → M D := runB 1 b_can_leave
def bN_can_leave : SN := (sSeqN (sExpr (gCall 1 m_need_log (saC (gv 0) sa0))) (gCallN 1 mN_leavings (saC (gv 0) sa0)))
def mN_can_leave : List D → M (List D) := runN 1 bN_can_leave
def b_read_of : SS := (sSeq (sAsg (EK.gTup (saC (fun _ => ret (.int 0)) (saC (EK.gTup sa0) sa0))) (sgT (sgCons (sgN 1) (sgCons (sgN 2) sgNil)))) (sSeq (sFor (gIt (gv 0)) (sgN 3) (sSeq (sAsg (gC maxLD (saC (gv 1) (saC (g2 ixD (gv 3) (fun _ => ret (.int 1))) sa0))) (sgN 1)) (sIf (tB' (g2 eqD (g2 ixD (gv 3) (fun _ => ret (.int 0))) (fun _ => ret (.str "entry")))) (sAsg (gSl (gv 3) (oSome (fun _ => ret (.int 1))) oNone) (sgN 2)) sNil))) (sRet (EK.gTup (saC (gv 1) (saC (gv 2) sa0))))))
def m_read_of : List D → M D := runB 4 b_read_of
def b_read : SS := (sSeq (sIf (bNot (tB' (gCall 1 m_are_records (saC (gv 0) sa0)))) (sThrow0 "BadLog") sNil) (sRet (gCall 1 m_read_of (saC (gv 0) sa0))))
def m_read : List D → M D := runB 1 b_read
def b_fallen : SS := (sSeq (sExpr (gCall 1 m_need_log (saC (gv 0) sa0))) (sSeq (sIf (bOr (bNot (tB' (gCall 1 m_is_number (saC (gv 1) sa0)))) (tB' (g2 ninX (gv 1) (gCall 1 m_leavings (saC (gv 0) sa0))))) (sThrow1 "BadLeft" "left" (gv 1)) sNil) (sRet (EK.gTup (saC (gSl (g2 ixD (gv 0) (fun _ => ret (.int 0))) oNone (oSome (gv 1))) (saC (gv 1) sa0))))))
def m_fallen : List D → M D := runB 2 b_fallen
end EKL


namespace EKL
open PySem PySem.Spec PyProof.Rows L2 EK
def b_law_against : SS := (sSeq (sOwn 2 (gLD sa0)) (sSeq (sFor (gIt (gCall 1 m_law_heaps (saC (gv 0) sa0))) (sgN 3) (sIf (tB' (g2 eqD (gLO (gLc [4] (gIt (gv 1)) (sgN 4) (tB' (g2 eqD (gCall 2 m_law_shared (saC (gv 3) (saC (gv 4) sa0))) (EK.gTup sa0))) (gv 4))) (gLst sa0))) (sApp 2 (gv 3)) sNil)) (sFrz 2 (sRet (gCall 1 m_law_thin (saC (gv 2) sa0))))))
def m_law_against : List D → M D := runB 5 b_law_against
def b_law_model : SS := (sSeq (sAsg (gCall 2 m_law_labels (saC (gv 0) (saC (g2 addD (fun _ => ret (.int 1)) (gCall 2 m_law_take (saC (gv 0) (saC (gv 1) sa0)))) sa0))) (sgN 2)) (sSeq (sAsg (gCall 2 m_law_drawn_thin (saC (gv 0) (saC (gv 2) sa0))) (sgN 3)) (sSeq (sAsg (vIf (tB' (g2 gtI (gCall 2 m_law_take (saC (gv 0) (saC (fun _ => ret (.int 3)) sa0))) (fun _ => ret (.int 0)))) (gCall 2 m_law_against (saC (gv 2) (saC (gv 3) sa0))) (gCall 2 m_law_drawn_thin (saC (gv 0) (saC (gv 2) sa0)))) (sgN 4)) (sSeq (sAsg (gC dictPD (saC (gLO (gLc [7] (gIt (gv 2)) (sgN 7) yes (EK.gTup (saC (gv 7) (saC (gCall 1 m_law_word_pair (saC (gv 0) sa0)) sa0))))) sa0)) (sgN 5)) (sSeq (sAsg (gCall 2 m_law_pick (saC (gv 0) (saC (gLst (saC (fun _ => ret (.str "newest")) (saC (fun _ => ret (.str "bound")) sa0))) sa0))) (sgN 6)) (sRet (gDisp [((fun _ => ret (.str "names")), (gv 2)), ((fun _ => ret (.str "fists")), (gv 5)), ((fun _ => ret (.str "elect")), (gv 3)), ((fun _ => ret (.str "keep")), (gv 4)), ((fun _ => ret (.str "mode")), (gv 6))])))))))
def m_law_model : List D → M D := runB 8 b_law_model
def b_are_hands : SS := (sSeq (sIf (bOr (bNot (tB' (g1 (isiD [] fun t => List.lookup t ([("NoneType", false), ("bool", false), ("int", false), ("str", false), ("tuple", false), ("list", false), ("dict", true)] : List (String × Bool))) (gv 0)))) (bNot (tB' (g3 leI leI (fun _ => ret (.int 1)) (gC lenDctD (saC (gv 0) sa0)) (fun _ => ret (.int 5)))))) (sRet (fun _ => ret (.bl false))) sNil) (sRet (gC allD (saC (gLO (gLc [1] (gItF keysD (gv 0)) (sgN 1) yes (vAnd (gCall 1 m_is_name (saC (gv 1) sa0)) (g1 (isiD [("Hand", true)] fun t => List.lookup t ([("NoneType", false), ("bool", false), ("int", false), ("str", false), ("tuple", false), ("list", false), ("dict", false)] : List (String × Bool))) (g2 dgetD (gv 0) (gv 1)))))) sa0))))
def m_are_hands : List D → M D := runB 2 b_are_hands
def b_is_fine_family : SS := (sSeq (sIf (bOr (bNot (tB' (g1 (isiD [("Family", true)] fun t => List.lookup t ([("NoneType", false), ("bool", false), ("int", false), ("str", false), ("tuple", false), ("list", false), ("dict", false)] : List (String × Bool))) (gv 0)))) (tB' (g2 neD (gFld "Family" "own_machines" (gv 0)) (gv 1)))) (sRet (fun _ => ret (.bl false))) sNil) (sRet (vAnd (g2 neD (gFld "Family" "own_least" (gv 0)) (gLst sa0)) (g2 neD (gFld "Family" "own_least" (gv 0)) (gLst (saC (EK.gTup sa0) sa0))))))
def m_is_fine_family : List D → M D := runB 2 b_is_fine_family
def b_Book___init__ : SS := (sSeq (sIf (bNot (tB' (gCall 1 m_are_hands (saC (gv 1) sa0)))) (sThrow1 "BadBook" "part" (fun _ => ret (.str "hands"))) sNil) (sSeq (sAsg (gC tupleD (saC (gC sortedDc (saC (gv 1) sa0)) sa0)) (sgN 5)) (sSeq (sIf (bNot (tB' (gCall 2 m_is_fine_family (saC (gv 2) (saC (gv 5) sa0))))) (sThrow1 "BadBook" "part" (fun _ => ret (.str "elect"))) sNil) (sSeq (sIf (bNot (tB' (gCall 2 m_is_fine_family (saC (gv 3) (saC (gv 5) sa0))))) (sThrow1 "BadBook" "part" (fun _ => ret (.str "keep"))) sNil) (sSeq (sIf (bNot (tB' (gCall 2 m_is_of (saC (gv 4) (saC (gTupS ["newest", "bound"]) sa0))))) (sThrow1 "BadBook" "part" (fun _ => ret (.str "takes"))) sNil) (sSeq (sFldC "Book" "own_hands" (gDc [6] (gIt (gv 5)) (sgN 6) yes (gv 6) (g2 dgetD (gv 1) (gv 6)))) (sSeq (sFldC "Book" "own_machines" (gv 5)) (sSeq (sFldC "Book" "own_elect" (gv 2)) (sSeq (sFldC "Book" "own_keep" (gv 3)) (sFldC "Book" "own_takes" (gv 4)))))))))))
def m_Book___init__ : List D → M (List Str × List D) := runI "Book" 7 b_Book___init__
def b_law_code : SS := (sSeq (sAsg (g2 dgetD (gv 0) (fun _ => ret (.str "names"))) (sgN 1)) (sSeq (sAsg (gC dictPD (saC (gLO (gLc [3, 4] (gItF itemsDD (g2 dgetD (gv 0) (fun _ => ret (.str "fists")))) (sgT (sgCons (sgN 3) (sgCons (sgN 4) sgNil))) yes (EK.gTup (saC (gv 3) (saC (gMake "Hand" 3 m_Hand___init__ (saC (g2 ixD (gv 4) (fun _ => ret (.int 0))) (saC (g2 ixD (gv 4) (fun _ => ret (.int 1))) (saC (g2 ixD (gv 4) (fun _ => ret (.int 2))) sa0)))) sa0))))) sa0)) (sgN 2)) (sRet (gMake "Book" 4 m_Book___init__ (saC (gv 2) (saC (gMake "Family" 2 m_Family___init__ (saC (gv 1) (saC (g2 dgetD (gv 0) (fun _ => ret (.str "elect"))) sa0))) (saC (gMake "Family" 2 m_Family___init__ (saC (gv 1) (saC (g2 dgetD (gv 0) (fun _ => ret (.str "keep"))) sa0))) (saC (g2 dgetD (gv 0) (fun _ => ret (.str "mode"))) sa0))))))))
def m_law_code : List D → M D := runB 5 b_law_code
def b_law_is_sure : SS := (sRet (vOr (g2 eqD (g2 ixD (gv 0) (fun _ => ret (.int 2))) (fun _ => ret (.str "barred"))) (g2 eqD (gSl (gv 0) oNone (oSome (fun _ => ret (.int 2)))) (EK.gTup (saC (fun _ => ret (.str "forced")) (saC (fun _ => ret (.str "forced")) sa0))))))
def m_law_is_sure : List D → M D := runB 1 b_law_is_sure
def b_law_weak_ones : SS := (sRet (gLO (gLc [3] (gIt (gCall 2 m_law_shared (saC (gv 1) (saC (gv 2) sa0)))) (sgN 3) (bNot (tB' (gCall 1 m_law_is_sure (saC (g2 dgetD (g2 dgetD (gv 0) (fun _ => ret (.str "fists"))) (gv 3)) sa0)))) (gv 3))))
def m_law_weak_ones : List D → M D := runB 4 b_law_weak_ones
def b_law_breaks : SS := (sSeq (sAsg (gLO (gLc [6] (gIt (gCall 2 m_law_shared (saC (gv 1) (saC (gv 2) sa0)))) (sgN 6) (tB' (g2 ninD (gv 6) (gv 3))) (gv 6))) (sgN 4)) (sSeq (sIf (tB' (g2 eqD (g2 dgetD (gv 0) (fun _ => ret (.str "mode"))) (fun _ => ret (.str "newest")))) (sRet (g2 eqD (gv 4) (gLst sa0))) sNil) (sSeq (sAsg (gLO (gLc [7] (gIt (g2 dgetD (gv 0) (fun _ => ret (.str "keep")))) (sgN 7) (tB' (gCall 2 m_law_has_all (saC (gv 4) (saC (gCall 2 m_law_shared (saC (gv 1) (saC (gv 7) sa0))) sa0)))) (gv 7))) (sgN 5)) (sRet (vOr (g2 eqD (gv 4) (gLst sa0)) (g2 eqD (gv 5) (gLst sa0)))))))
def m_law_breaks : List D → M D := runB 8 b_law_breaks
def b_law_fewest : SS := (sSeq (sAsg (fun _ => ret .non) (sgN 1)) (sSeq (sFor (gIt (gLO (gLc [3] (gIt (gCall 1 m_law_heaps (saC (g2 dgetD (gv 0) (fun _ => ret (.str "names"))) sa0))) (sgN 3) (tB' (gCall 2 m_law_enough (saC (g2 dgetD (gv 0) (fun _ => ret (.str "elect"))) (saC (gv 3) sa0)))) (gv 3)))) (sgN 2) (sFor (gIt (g2 dgetD (gv 0) (fun _ => ret (.str "keep")))) (sgN 3) (sFor (gIt (gCall 1 m_law_heaps (saC (gCall 3 m_law_weak_ones (saC (gv 0) (saC (gv 2) (saC (gv 3) sa0)))) sa0))) (sgN 4) (sIf (bAnd (bOr (tB' (g2 isND (gv 1) (fun _ => ret .non))) (tB' (g2 ltI (gC lenD (saC (gv 4) sa0)) (gv 1)))) (tB' (gCall 4 m_law_breaks (saC (gv 0) (saC (gv 2) (saC (gv 3) (saC (gv 4) sa0))))))) (sAsg (gC lenD (saC (gv 4) sa0)) (sgN 1)) sNil)))) (sRet (gv 1))))
def m_law_fewest : List D → M D := runB 5 b_law_fewest
def b_need_book : SS := (sIf (bNot (tB' (g1 (isiD [("Book", true)] fun t => List.lookup t ([("NoneType", false), ("bool", false), ("int", false), ("str", false), ("tuple", false), ("list", false), ("dict", false)] : List (String × Bool))) (gv 0)))) (sThrow1 "BadBook" "part" (fun _ => ret (.str "book"))) sNil)
def m_need_book : List D → M D := runB 1 b_need_book
def b_electing : SS := (sRet (vIf (tB' (g2 eqD (gFld "Book" "own_takes" (gv 0)) (fun _ => ret (.str "newest")))) (gFld "Family" "own_least" (gFld "Book" "own_elect" (gv 0))) (gMeth0 "Family" "all_lots" m_Family_all_lots (gFld "Book" "own_elect" (gv 0)))))
def m_electing : List D → M D := runB 1 b_electing
def b_pairs_of : SS := (sRet (gLO (gLc2 [1, 2] [2] (gIt (gCall 1 m_electing (saC (gv 0) sa0))) (sgN 1) yes (gIt (gFld "Family" "own_least" (gFld "Book" "own_keep" (gv 0)))) (sgN 2) yes (EK.gTup (saC (gv 1) (saC (gv 2) sa0))))))
def m_pairs_of : List D → M D := runB 3 b_pairs_of
def b_left_out : SS := (sRet (gC tupleD (saC (gLO (gLc [2] (gIt (gv 0)) (sgN 2) (tB' (g2 ninD (gv 2) (gv 1))) (gv 2))) sa0)))
def m_left_out : List D → M D := runB 3 b_left_out
def b_Hand_firm : SS := (sRet (vOr (g2 eqD (gFld "Hand" "own_back" (gv 0)) (fun _ => ret (.str "barred"))) (g3 eqD eqD (gFld "Hand" "own_promise" (gv 0)) (gFld "Hand" "own_entry" (gv 0)) (fun _ => ret (.str "forced")))))
def m_Hand_firm : List D → M D := runB 1 b_Hand_firm
def b_firm_of : SS := (sRet (gC tupleD (saC (gLO (gLc [1] (gIt (gFld "Book" "own_machines" (gv 0))) (sgN 1) (tB' (gProp "Hand" m_Hand_firm (g2 dgetD (gFld "Book" "own_hands" (gv 0)) (gv 1)))) (gv 1))) sa0)))
def m_firm_of : List D → M D := runB 2 b_firm_of
def b_weak_of : SS := (sRet (gCall 2 m_left_out (saC (gCall 2 m_common (saC (gv 1) (saC (gv 2) sa0))) (saC (gCall 1 m_firm_of (saC (gv 0) sa0)) sa0))))
def m_weak_of : List D → M D := runB 3 b_weak_of
def b_is_part : SS := (sRet (g2 eqD (gCall 2 m_left_out (saC (gv 0) (saC (gv 1) sa0))) (EK.gTup sa0)))
def m_is_part : List D → M D := runB 2 b_is_part
def b_binds_nobody : SS := (sRet (vOr (g2 eqD (gv 2) (EK.gTup sa0)) (vNot (gC anyD (saC (gLO (gLc [3] (gIt (gFld "Family" "own_least" (gFld "Book" "own_keep" (gv 0)))) (sgN 3) yes (gCall 2 m_is_part (saC (gCall 2 m_common (saC (gv 1) (saC (gv 3) sa0))) (saC (gv 2) sa0))))) sa0)))))
def m_binds_nobody : List D → M D := runB 4 b_binds_nobody
def b_breaks : SS := (sSeq (sAsg (gCall 2 m_left_out (saC (gCall 2 m_common (saC (gv 1) (saC (gv 2) sa0))) (saC (gv 3) sa0))) (sgN 4)) (sRet (vIf (tB' (g2 eqD (gFld "Book" "own_takes" (gv 0)) (fun _ => ret (.str "newest")))) (g2 eqD (gv 4) (EK.gTup sa0)) (gCall 3 m_binds_nobody (saC (gv 0) (saC (gv 1) (saC (gv 4) sa0)))))))
def m_breaks : List D → M D := runB 5 b_breaks
def b_weaknesses : SS := (sSeq (sOwn 2 (gLD sa0)) (sSeq (sFor (gIt (gCall 1 m_pairs_of (saC (gv 0) sa0))) (sgT (sgCons (sgN 3) (sgCons (sgN 4) sgNil))) (sFor (gIt (gCall 1 m_lots_in_order (saC (gCall 3 m_weak_of (saC (gv 0) (saC (gv 3) (saC (gv 4) sa0)))) sa0))) (sgN 5) (sIf (bAnd (tB' (g2 eqD (gC lenD (saC (gv 5) sa0)) (gv 1))) (tB' (gCall 4 m_breaks (saC (gv 0) (saC (gv 3) (saC (gv 4) (saC (gv 5) sa0))))))) (sApp 2 (EK.gTup (saC (gv 3) (saC (gv 4) (saC (gv 5) sa0))))) sNil))) (sFrz 2 (sRet (gv 2)))))
def m_weaknesses : List D → M D := runB 6 b_weaknesses
def b_first_weakness : SS := (sSeq (sFor (gItC rng1 (saC (g2 addD (gC lenD (saC (gFld "Book" "own_machines" (gv 0)) sa0)) (fun _ => ret (.int 1))) sa0)) (sgN 1) (sSeq (sAsg (gCall 2 m_weaknesses (saC (gv 0) (saC (gv 1) sa0))) (sgN 2)) (sIf (tB' (g2 neD (gv 2) (gLst sa0))) (sRet (g2 ixD (gv 2) (fun _ => ret (.int 0)))) sNil))) (sRet (fun _ => ret .non)))
def m_first_weakness : List D → M D := runB 3 b_first_weakness
def b_weakness : SS := (sSeq (sExpr (gCall 1 m_need_book (saC (gv 0) sa0))) (sRet (gCall 1 m_first_weakness (saC (gv 0) sa0))))
def m_weakness : List D → M D := runB 1 b_weakness
def b_law_is_heap : SS := (sSeq (sIf (bNot (tB' (g1 (isiD [] fun t => List.lookup t ([("NoneType", false), ("bool", false), ("int", false), ("str", false), ("tuple", true), ("list", false), ("dict", false)] : List (String × Bool))) (gv 1)))) (sRet (fun _ => ret (.bl false))) sNil) (sSeq (sIf (tB' (g2 neD (gLO (gLc [2] (gIt (gv 1)) (sgN 2) (bOr (bNot (tB' (g1 (isiD [] fun t => List.lookup t ([("NoneType", false), ("bool", false), ("int", false), ("str", true), ("tuple", false), ("list", false), ("dict", false)] : List (String × Bool))) (gv 2)))) (tB' (g2 ninD (gv 2) (gv 0)))) (fun _ => ret (.int 1)))) (gLst sa0))) (sRet (fun _ => ret (.bl false))) sNil) (sRet (vAnd (g2 eqD (gC listD (saC (gv 1) sa0)) (gC sortedD (saC (gv 1) sa0))) (g2 eqD (g1 (setD lenS) (gv 1)) (gC lenD (saC (gv 1) sa0)))))))
def m_law_is_heap : List D → M D := runB 3 b_law_is_heap
def b_law_is_due : SS := (sSeq (sIf (bOr (bNot (tB' (g1 (isiD [] fun t => List.lookup t ([("NoneType", false), ("bool", false), ("int", false), ("str", false), ("tuple", true), ("list", false), ("dict", false)] : List (String × Bool))) (gv 1)))) (bOr (tB' (g2 neD (gC lenD (saC (gv 1) sa0)) (fun _ => ret (.int 3)))) (tB' (g2 neD (gLO (gLc [3] (gIt (gv 1)) (sgN 3) (bNot (tB' (gCall 2 m_law_is_heap (saC (g2 dgetD (gv 0) (fun _ => ret (.str "names"))) (saC (gv 3) sa0))))) (fun _ => ret (.int 1)))) (gLst sa0))))) (sRet (fun _ => ret (.bl false))) sNil) (sSeq (sIf (bOr (bNot (tB' (gCall 2 m_law_enough (saC (g2 dgetD (gv 0) (fun _ => ret (.str "elect"))) (saC (g2 ixD (gv 1) (fun _ => ret (.int 0))) sa0))))) (bNot (tB' (gCall 2 m_law_enough (saC (g2 dgetD (gv 0) (fun _ => ret (.str "keep"))) (saC (g2 ixD (gv 1) (fun _ => ret (.int 1))) sa0)))))) (sRet (fun _ => ret (.bl false))) sNil) (sSeq (sAsg (gCall 3 m_law_weak_ones (saC (gv 0) (saC (g2 ixD (gv 1) (fun _ => ret (.int 0))) (saC (g2 ixD (gv 1) (fun _ => ret (.int 1))) sa0)))) (sgN 2)) (sRet (vAnd (gCall 2 m_law_has_all (saC (gv 2) (saC (g2 ixD (gv 1) (fun _ => ret (.int 2))) sa0))) (gCall 4 m_law_breaks (saC (gv 0) (saC (g2 ixD (gv 1) (fun _ => ret (.int 0))) (saC (g2 ixD (gv 1) (fun _ => ret (.int 1))) (saC (g2 ixD (gv 1) (fun _ => ret (.int 2))) sa0))))))))))
def m_law_is_due : List D → M D := runB 4 b_law_is_due
def b_is_weakness : SS := (sSeq (sExpr (gCall 1 m_need_book (saC (gv 0) sa0))) (sSeq (sIf (bOr (bNot (tB' (g1 (isiD [] fun t => List.lookup t ([("NoneType", false), ("bool", false), ("int", false), ("str", false), ("tuple", true), ("list", false), ("dict", false)] : List (String × Bool))) (gv 1)))) (bOr (tB' (g2 neD (gC lenD (saC (gv 1) sa0)) (fun _ => ret (.int 3)))) (bNot (tB' (gC allD (saC (gLO (gLc [3] (gIt (gv 1)) (sgN 3) yes (gCall 2 m_is_lot (saC (gFld "Book" "own_machines" (gv 0)) (saC (gv 3) sa0))))) sa0)))))) (sRet (fun _ => ret (.bl false))) sNil) (sSeq (sAsg (gv 1) (sgT (sgCons (sgN 2) (sgCons (sgN 3) (sgCons (sgN 4) sgNil))))) (sSeq (sIf (bOr (bNot (tB' (gCall 2 m_holds (saC (gFld "Book" "own_elect" (gv 0)) (saC (gv 2) sa0))))) (bNot (tB' (gCall 2 m_holds (saC (gFld "Book" "own_keep" (gv 0)) (saC (gv 3) sa0)))))) (sRet (fun _ => ret (.bl false))) sNil) (sRet (vAnd (gCall 2 m_is_part (saC (gv 4) (saC (gCall 3 m_weak_of (saC (gv 0) (saC (gv 2) (saC (gv 3) sa0)))) sa0))) (gCall 4 m_breaks (saC (gv 0) (saC (gv 2) (saC (gv 3) (saC (gv 4) sa0)))))))))))
def m_is_weakness : List D → M D := runB 5 b_is_weakness
end EKL


namespace EKL
open PySem PySem.Spec PyProof.Rows L2 EK
def b_least_falls_of : SS := (sSeq (sAsg (gCall 1 m_first_weakness (saC (gv 0) sa0)) (sgN 1)) (sRet (vIf (tB' (g2 isND (gv 1) (fun _ => ret .non))) (fun _ => ret .non) (gC lenD (saC (g2 ixD (gv 1) (fun _ => ret (.int 2))) sa0)))))
def m_least_falls_of : List D → M D := runB 2 b_least_falls_of
def b_least_falls : SS := (sSeq (sExpr (gCall 1 m_need_book (saC (gv 0) sa0))) (sRet (gCall 1 m_least_falls_of (saC (gv 0) sa0))))
def m_least_falls : List D → M D := runB 1 b_least_falls
def b_need_falls : SS := (sIf (bAnd (tB' (g2 notND (gv 0) (fun _ => ret .non))) (bNot (bAnd (tB' (gCall 1 m_is_number (saC (gv 0) sa0))) (tB' (g3 leI leI (fun _ => ret (.int 0)) (gv 0) (fun _ => ret (.int 99))))))) (sThrow1 "BadFalls" "falls" (gv 0)) sNil)
def m_need_falls : List D → M D := runB 1 b_need_falls
def b_is_fine : SS := (sSeq (sAsg (gCall 1 m_least_falls_of (saC (gv 0) sa0)) (sgN 2)) (sRet (vOr (g2 isND (gv 2) (fun _ => ret .non)) (vAnd (g2 notND (gv 1) (fun _ => ret .non)) (g2 ltP (gv 1) (gv 2))))))
def m_is_fine : List D → M D := runB 3 b_is_fine
def b_is_right : SS := (sSeq (sExpr (gCall 1 m_need_book (saC (gv 0) sa0))) (sSeq (sExpr (gCall 1 m_need_falls (saC (gv 1) sa0))) (sRet (gCall 2 m_is_fine (saC (gv 0) (saC (gv 1) sa0))))))
def m_is_right : List D → M D := runB 2 b_is_right
def b_open_pairs : SS := (sSeq (sPar 2 3 (slO (gLD sa0)) (slF (gLO (gLc [7, 4] (gIt (gv 1)) (sgT (sgCons (sgN 7) (sgCons (sgN 4) sgNil))) yes (gv 7))))) (sSeq (sFor (gIt (gCK sortedRK (saC (gLO (gLc [7, 4] (gIt (gv 1)) (sgT (sgCons (sgN 7) (sgCons (sgN 4) sgNil))) (tB' (g2 neD (gv 4) (EK.gTup sa0))) (gv 4))) sa0) (saC (fun _ => ret (.bl true)) sa0))) (sgN 4) (sSeq (sAsg (gLO (gLc [7, 8] (gIt (gv 1)) (sgT (sgCons (sgN 7) (sgCons (sgN 8) sgNil))) (bAnd (tB' (g2 neD (gv 8) (EK.gTup sa0))) (tB' (g2 geP (g2 ixD (gv 8) (fun _ => ret (.int 0))) (g2 ixD (gv 4) (fun _ => ret (.int 0)))))) (gv 7))) (sgN 5)) (sFor (gIt (gFld "Family" "own_least" (gFld "Book" "own_keep" (gv 0)))) (sgN 6) (sIf (bAnd (tB' (g2O' ninX (gv 4) 2)) (tB' (gC allD (saC (gLO (gLc [7] (gIt (gv 6)) (sgN 7) (tB' (g2 inX (gv 7) (gv 3))) (g2 inX (gv 7) (gv 5)))) sa0)))) (sApp 2 (gv 4)) sNil)))) (sFrz 2 (sRet (gv 2)))))
def m_open_pairs : List D → M D := runB 9 b_open_pairs
def b_binding : SS := (sSeq (sIf (tB' (g2 eqD (gFld "Book" "own_takes" (gv 0)) (fun _ => ret (.str "bound")))) (sAsg (gCall 2 m_open_pairs (saC (gv 0) (saC (gv 1) sa0))) (sgN 2)) (sAsg (gCK sortedRK (saC (gLO (gLc [3, 4] (gIt (gv 1)) (sgT (sgCons (sgN 3) (sgCons (sgN 4) sgNil))) (tB' (g2 neD (gv 4) (EK.gTup sa0))) (gv 4))) sa0) (saC (fun _ => ret (.bl true)) sa0)) (sgN 2))) (sRet (vIf (tB' (g2 neD (gv 2) (gLst sa0))) (g2 ixD (gv 2) (fun _ => ret (.int 0))) (EK.gTup sa0))))
def m_binding : List D → M D := runB 5 b_binding
def b_is_taken : SS := (sRet (vOr (vAnd (g2 eqD (gv 0) (EK.gTup sa0)) (g1 (isiD [] fun t => List.lookup t ([("NoneType", false), ("bool", false), ("int", false), ("str", false), ("tuple", true), ("list", false), ("dict", false)] : List (String × Bool))) (gv 0))) (gCall 1 m_is_pair (saC (gv 0) sa0))))
def m_is_taken : List D → M D := runB 1 b_is_taken
def b_told_list : SS := (sSeq (sIf (bOr (bNot (tB' (g1 (isiD [] fun t => List.lookup t ([("NoneType", false), ("bool", false), ("int", false), ("str", false), ("tuple", false), ("list", false), ("dict", true)] : List (String × Bool))) (gv 1)))) (bNot (tB' (gC allD (saC (gLO (gLc [4] (gItF keysD (gv 1)) (sgN 4) yes (vAnd (gCall 1 m_is_name (saC (gv 4) sa0)) (gCall 1 m_is_taken (saC (g2 dgetD (gv 1) (gv 4)) sa0))))) sa0))))) (sThrow0 "BadTold") sNil) (sSeq (sAsg (gC tupleD (saC (gC sortedDc (saC (gv 1) sa0)) sa0)) (sgN 2)) (sSeq (sIf (bOr (bNot (tB' (gCall 2 m_is_lot (saC (gFld "Book" "own_machines" (gv 0)) (saC (gv 2) sa0))))) (bNot (tB' (gCall 2 m_holds (saC (gFld "Book" "own_elect" (gv 0)) (saC (gv 2) sa0)))))) (sThrow0 "BadTold") sNil) (sSeq (sAsg (gLO (gLc [4] (gIt (gv 2)) (sgN 4) (tB' (g2 neD (g2 dgetD (gv 1) (gv 4)) (EK.gTup sa0))) (g2 dgetD (gv 1) (gv 4)))) (sgN 3)) (sSeq (sIf (tB' (gC anyD (saC (gLO (gLc2 [5, 6] [6] (gIt (gv 3)) (sgN 5) yes (gIt (gv 3)) (sgN 6) yes (vAnd (g2 eqD (g2 ixD (gv 5) (fun _ => ret (.int 0))) (g2 ixD (gv 6) (fun _ => ret (.int 0)))) (g2 neD (g2 ixD (gv 5) (fun _ => ret (.int 1))) (g2 ixD (gv 6) (fun _ => ret (.int 1))))))) sa0))) (sThrow0 "BadTold") sNil) (sRet (gLO (gLc [4] (gIt (gv 2)) (sgN 4) yes (EK.gTup (saC (gv 4) (saC (g2 dgetD (gv 1) (gv 4)) sa0)))))))))))
def m_told_list : List D → M D := runB 7 b_told_list
def b_what_binds : SS := (sSeq (sExpr (gCall 1 m_need_book (saC (gv 0) sa0))) (sRet (gCall 2 m_binding (saC (gv 0) (saC (gCall 2 m_told_list (saC (gv 0) (saC (gv 1) sa0))) sa0)))))
def m_what_binds : List D → M D := runB 2 b_what_binds
def b_may_be_kept : SS := (sSeq (sExpr (gCall 1 m_need_book (saC (gv 0) sa0))) (sRet (gCall 2 m_open_pairs (saC (gv 0) (saC (gCall 2 m_told_list (saC (gv 0) (saC (gv 1) sa0))) sa0)))))
def m_may_be_kept : List D → M D := runB 2 b_may_be_kept
def b_Book_with_takes : SS := (sRet (gMake "Book" 4 m_Book___init__ (saC (gFld "Book" "own_hands" (gv 0)) (saC (gFld "Book" "own_elect" (gv 0)) (saC (gFld "Book" "own_keep" (gv 0)) (saC (gv 1) sa0))))))
def m_Book_with_takes : List D → M D := runB 2 b_Book_with_takes
def b_Book_with_hand : SS := (sSeq (sIf (bOr (bNot (tB' (g1 (isiD [] fun t => List.lookup t ([("NoneType", false), ("bool", false), ("int", false), ("str", true), ("tuple", false), ("list", false), ("dict", false)] : List (String × Bool))) (gv 1)))) (tB' (g2 dninD (gv 1) (gFld "Book" "own_hands" (gv 0))))) (sThrow1 "BadMachine" "machine" (gv 1)) sNil) (sRet (gMake "Book" 4 m_Book___init__ (saC (gDispS (gFld "Book" "own_hands" (gv 0)) (gv 1) (gv 2)) (saC (gFld "Book" "own_elect" (gv 0)) (saC (gFld "Book" "own_keep" (gv 0)) (saC (gFld "Book" "own_takes" (gv 0)) sa0)))))))
def m_Book_with_hand : List D → M D := runB 3 b_Book_with_hand
def b_Book_elect : SS := (sRet (gFld "Book" "own_elect" (gv 0)))
def m_Book_elect : List D → M D := runB 1 b_Book_elect
def b_Book_keep : SS := (sRet (gFld "Book" "own_keep" (gv 0)))
def m_Book_keep : List D → M D := runB 1 b_Book_keep
def b_law_wider : SS := (sSeq (sPar 2 3 (slF (g2 addD (g2 dgetD (gv 1) (fun _ => ret (.str "names"))) (gLst (saC (fun _ => ret (.str "zzz")) sa0)))) (slF (gCall 1 m_law_word_pair (saC (gv 0) sa0)))) (sSeq (sOwnX 4 (gXC (saC (gLO (gLc [6, 7] (gItF itemsDD (g2 dgetD (gv 1) (fun _ => ret (.str "fists")))) (sgT (sgCons (sgN 6) (sgCons (sgN 7) sgNil))) yes (EK.gTup (saC (gv 6) (saC (gMake "Hand" 3 m_Hand___init__ (saC (g2 ixD (gv 7) (fun _ => ret (.int 0))) (saC (g2 ixD (gv 7) (fun _ => ret (.int 1))) (saC (g2 ixD (gv 7) (fun _ => ret (.int 2))) sa0)))) sa0))))) sa0))) (sSeq (sSetX 4 (fun _ => ret (.str "zzz")) (gMake "Hand" 3 m_Hand___init__ (saC (g2 ixD (gv 3) (fun _ => ret (.int 0))) (saC (g2 ixD (gv 3) (fun _ => ret (.int 1))) (saC (g2 ixD (gv 3) (fun _ => ret (.int 2))) sa0))))) (sSeq (sAsg (gLO (gLc [8] (gIt (g2 dgetD (gv 1) (fun _ => ret (.str "elect")))) (sgN 8) yes (gC tupleD (saC (gC sortedD (saC (g2 addD (gv 8) (EK.gTup (saC (fun _ => ret (.str "zzz")) sa0))) sa0)) sa0)))) (sgN 5)) (sFrzX 4 (sRet (gMake "Book" 4 m_Book___init__ (saC (gv 4) (saC (gMake "Family" 2 m_Family___init__ (saC (gv 2) (saC (g2 addD (gv 5) (g2 dgetD (gv 1) (fun _ => ret (.str "elect")))) sa0))) (saC (gMake "Family" 2 m_Family___init__ (saC (gv 2) (saC (g2 addD (g2 dgetD (gv 1) (fun _ => ret (.str "keep"))) (gLst (saC (gC tupleD (saC (gC sortedD (saC (gv 2) sa0)) sa0)) sa0))) sa0))) (saC (g2 dgetD (gv 1) (fun _ => ret (.str "mode"))) sa0)))))))))))
def m_law_wider : List D → M D := runB 9 b_law_wider
def b_lost_lots : SS := (sSeq (sAsg (gCall 3 m_weak_of (saC (gv 0) (saC (gv 1) (saC (gv 2) sa0)))) (sgN 4)) (sSeq (sAsg (vIf (tB' (g2 isND (gv 3) (fun _ => ret .non))) (gC lenD (saC (gv 4) sa0)) (gC min2D (saC (gv 3) (saC (gC lenD (saC (gv 4) sa0)) sa0)))) (sgN 5)) (sRet (gLO (gLc [6] (gIt (gCall 1 m_lots_in_order (saC (gv 4) sa0))) (sgN 6) (tB' (g2 eqD (gC lenD (saC (gv 6) sa0)) (gv 5))) (gv 6))))))
def m_lost_lots : List D → M D := runB 7 b_lost_lots
def b_is_witness : SS := (sSeq (sIf (bOr (bNot (tB' (gCall 2 m_is_lot (saC (gFld "Book" "own_machines" (gv 0)) (saC (gv 4) sa0))))) (bNot (tB' (gCall 2 m_holds (saC (gFld "Book" "own_keep" (gv 0)) (saC (gv 4) sa0)))))) (sRet (fun _ => ret (.bl false))) sNil) (sSeq (sAsg (gCall 2 m_common (saC (gv 1) (saC (gv 4) sa0))) (sgN 5)) (sRet (vAnd (g2 neD (gv 5) (EK.gTup sa0)) (gCall 2 m_is_part (saC (gv 5) (saC (gCall 2 m_left_out (saC (gCall 2 m_common (saC (gv 1) (saC (gv 2) sa0))) (saC (gv 3) sa0))) sa0)))))))
def m_is_witness : List D → M D := runB 6 b_is_witness
def b_witnesses : SS := (sSeq (sOwn 4 (gLD sa0)) (sSeq (sFor (gIt (gC sortedD (saC (gCall 4 m_lost_lots (saC (gv 0) (saC (gv 1) (saC (gv 2) (saC (gv 3) sa0))))) sa0))) (sgN 5) (sSeq (sAsg (gLO (gLc [7] (gIt (gFld "Family" "own_least" (gFld "Book" "own_keep" (gv 0)))) (sgN 7) (tB' (gCall 5 m_is_witness (saC (gv 0) (saC (gv 1) (saC (gv 2) (saC (gv 5) (saC (gv 7) sa0))))))) (gv 7))) (sgN 6)) (sSeq (sIf (tB' (g2 eqD (gv 6) (gLst sa0))) (sRet (fun _ => ret .non)) sNil) (sApp 4 (EK.gTup (saC (gv 5) (saC (g2 ixD (gv 6) (fun _ => ret (.int 0))) sa0))))))) (sFrz 4 (sRet (gC tupleD (saC (gv 4) sa0))))))
def m_witnesses : List D → M D := runB 8 b_witnesses
def b_strength : SS := (sSeq (sExpr (gCall 1 m_need_book (saC (gv 0) sa0))) (sSeq (sExpr (gCall 1 m_need_falls (saC (gv 1) sa0))) (sSeq (sIf (bNot (tB' (gCall 2 m_is_fine (saC (gv 0) (saC (gv 1) sa0))))) (sRet (fun _ => ret .non)) sNil) (sSeq (sIf (tB' (g2 eqD (gFld "Book" "own_takes" (gv 0)) (fun _ => ret (.str "newest")))) (sRet (gDc [2, 3] (gIt (gC sortedD (saC (gCall 1 m_pairs_of (saC (gv 0) sa0)) sa0))) (sgT (sgCons (sgN 2) (sgCons (sgN 3) sgNil))) yes (EK.gTup (saC (gv 2) (saC (gv 3) sa0))) (gCall 2 m_common (saC (gv 2) (saC (gv 3) sa0))))) sNil) (sRet (gDc [2, 3] (gIt (gC sortedD (saC (gCall 1 m_pairs_of (saC (gv 0) sa0)) sa0))) (sgT (sgCons (sgN 2) (sgCons (sgN 3) sgNil))) yes (EK.gTup (saC (gv 2) (saC (gv 3) sa0))) (gCall 4 m_witnesses (saC (gv 0) (saC (gv 2) (saC (gv 3) (saC (gv 1) sa0)))))))))))
def m_strength : List D → M D := runB 4 b_strength
def b_is_strong : SS := (sSeq (sIf (tB' (g2 eqD (gFld "Book" "own_takes" (gv 0)) (fun _ => ret (.str "newest")))) (sSeq (sIf (bOr (bNot (tB' (gCall 2 m_is_lot (saC (gFld "Book" "own_machines" (gv 0)) (saC (gv 4) sa0))))) (bNot (tB' (gCall 2 m_is_part (saC (gv 4) (saC (gCall 2 m_common (saC (gv 2) (saC (gv 3) sa0))) sa0)))))) (sRet (fun _ => ret (.bl false))) sNil) (sRet (vOr (g2 neD (gCall 2 m_common (saC (gv 4) (saC (gCall 1 m_firm_of (saC (gv 0) sa0)) sa0))) (EK.gTup sa0)) (vAnd (g2 notND (gv 1) (fun _ => ret .non)) (g2 gtI (gC lenD (saC (gv 4) sa0)) (gv 1)))))) sNil) (sSeq (sAsg (gC sortedD (saC (gCall 4 m_lost_lots (saC (gv 0) (saC (gv 2) (saC (gv 3) (saC (gv 1) sa0))))) sa0)) (sgN 5)) (sSeq (sIf (bOr (bNot (tB' (g1 (isiD [] fun t => List.lookup t ([("NoneType", false), ("bool", false), ("int", false), ("str", false), ("tuple", true), ("list", false), ("dict", false)] : List (String × Bool))) (gv 4)))) (tB' (g2 neD (gC lenD (saC (gv 4) sa0)) (gC lenD (saC (gv 5) sa0))))) (sRet (fun _ => ret (.bl false))) sNil) (sSeq (sIf (bNot (tB' (gC allD (saC (gLO (gLc [6] (gIt (gv 4)) (sgN 6) yes (vAnd (g1 (isiD [] fun t => List.lookup t ([("NoneType", false), ("bool", false), ("int", false), ("str", false), ("tuple", true), ("list", false), ("dict", false)] : List (String × Bool))) (gv 6)) (g2 eqD (gC lenD (saC (gv 6) sa0)) (fun _ => ret (.int 2)))))) sa0)))) (sRet (fun _ => ret (.bl false))) sNil) (sSeq (sIf (bNot (tB' (gC allD (saC (gLO (gLc [6, 7] (gItC zip2 (saC (gv 4) (saC (gv 5) sa0))) (sgT (sgCons (sgN 6) (sgCons (sgN 7) sgNil))) yes (vAnd (g1 (isiD [] fun t => List.lookup t ([("NoneType", false), ("bool", false), ("int", false), ("str", false), ("tuple", true), ("list", false), ("dict", false)] : List (String × Bool))) (g2 ixD (gv 6) (fun _ => ret (.int 0)))) (g2 eqD (g2 ixD (gv 6) (fun _ => ret (.int 0))) (gv 7))))) sa0)))) (sRet (fun _ => ret (.bl false))) sNil) (sRet (gC allD (saC (gLO (gLc [6] (gIt (gv 4)) (sgN 6) yes (gCall 5 m_is_witness (saC (gv 0) (saC (gv 2) (saC (gv 3) (saC (g2 ixD (gv 6) (fun _ => ret (.int 0))) (saC (g2 ixD (gv 6) (fun _ => ret (.int 1))) sa0)))))))) sa0))))))))
def m_is_strong : List D → M D := runB 8 b_is_strong
def b_is_strength : SS := (sSeq (sExpr (gCall 1 m_need_book (saC (gv 0) sa0))) (sSeq (sExpr (gCall 1 m_need_falls (saC (gv 1) sa0))) (sSeq (sAsg (gCall 1 m_pairs_of (saC (gv 0) sa0)) (sgN 3)) (sSeq (sIf (bOr (bNot (tB' (g1 (isiD [] fun t => List.lookup t ([("NoneType", false), ("bool", false), ("int", false), ("str", false), ("tuple", false), ("list", false), ("dict", true)] : List (String × Bool))) (gv 2)))) (bOr (tB' (g2 neD (gC lenD (saC (gv 2) sa0)) (gC lenD (saC (gv 3) sa0)))) (bNot (tB' (gC allD (saC (gLO (gLc [4] (gIt (gv 3)) (sgN 4) yes (g2 inX (gv 4) (gv 2)))) sa0)))))) (sRet (fun _ => ret (.bl false))) sNil) (sRet (gC allD (saC (gLO (gLc [5, 6] (gIt (gv 3)) (sgT (sgCons (sgN 5) (sgCons (sgN 6) sgNil))) yes (gCall 5 m_is_strong (saC (gv 0) (saC (gv 1) (saC (gv 5) (saC (gv 6) (saC (g2 ixD (gv 2) (EK.gTup (saC (gv 5) (saC (gv 6) sa0)))) sa0)))))))) sa0)))))))
def m_is_strength : List D → M D := runB 7 b_is_strength
end EKL


namespace EKL
open PySem PySem.Spec PyProof.Rows L2 EK
def b_family_of : SS := (sRet (gMake "Family" 2 m_Family___init__ (saC (gv 0) (saC (gCall 1 m_least_of (saC (gv 1) sa0)) sa0))))
def m_family_of : List D → M D := runB 2 b_family_of
def b_weight_of : SS := (sRet (gC sumD (saC (gLO (gLc [2] (gIt (gv 1)) (sgN 2) yes (g2 dgetD (gv 0) (gv 2)))) sa0)))
def m_weight_of : List D → M D := runB 3 b_weight_of
def b_weighted : SS := (sSeq (sIf (bOr (bNot (tB' (g1 (isiD [] fun t => List.lookup t ([("NoneType", false), ("bool", false), ("int", false), ("str", false), ("tuple", false), ("list", false), ("dict", true)] : List (String × Bool))) (gv 0)))) (bNot (tB' (gCall 1 m_are_machines (saC (gC listX (saC (gv 0) sa0)) sa0))))) (sThrow0 "BadWeights") sNil) (sSeq (sIf (bNot (tB' (gC allD (saC (gLO (gLc [3] (gItF keysD (gv 0)) (sgN 3) yes (gCall 3 m_is_within (saC (g2 dgetD (gv 0) (gv 3)) (saC (fun _ => ret (.int 0)) (saC (fun _ => ret (.int 99)) sa0)))))) sa0)))) (sThrow0 "BadWeights") sNil) (sSeq (sIf (bNot (tB' (gCall 3 m_is_within (saC (gv 1) (saC (fun _ => ret (.int 0)) (saC (fun _ => ret (.int 500)) sa0)))))) (sThrow1 "BadQuota" "quota" (gv 1)) sNil) (sSeq (sAsg (gC sortedDc (saC (gv 0) sa0)) (sgN 2)) (sRet (gCall 2 m_family_of (saC (gv 2) (saC (gLO (gLc [4] (gIt (gCall 1 m_lots_in_order (saC (gv 2) sa0))) (sgN 4) (tB' (g2 geI (gCall 2 m_weight_of (saC (gv 0) (saC (gv 4) sa0))) (gv 1))) (gv 4))) sa0))))))))
def m_weighted : List D → M D := runB 5 b_weighted
def b_counted : SS := (sSeq (sIf (bNot (tB' (gCall 1 m_are_machines (saC (gv 0) sa0)))) (sThrow1 "BadFamily" "part" (fun _ => ret (.str "machines"))) sNil) (sSeq (sIf (bNot (tB' (gCall 3 m_is_within (saC (gv 1) (saC (fun _ => ret (.int 0)) (saC (fun _ => ret (.int 6)) sa0)))))) (sThrow1 "BadCount" "count" (gv 1)) sNil) (sRet (gCall 2 m_family_of (saC (gv 0) (saC (gLO (gLc [2] (gIt (gCall 1 m_lots_in_order (saC (gv 0) sa0))) (sgN 2) (tB' (g2 geI (gC lenD (saC (gv 2) sa0)) (gv 1))) (gv 2))) sa0))))))
def m_counted : List D → M D := runB 3 b_counted
def b_are_racks : SS := (sSeq (sIf (bOr (bNot (tB' (g1 (isiD [] fun t => List.lookup t ([("NoneType", false), ("bool", false), ("int", false), ("str", false), ("tuple", false), ("list", false), ("dict", true)] : List (String × Bool))) (gv 0)))) (bNot (tB' (gC allD (saC (gLO (gLc [1] (gItF keysD (gv 0)) (sgN 1) yes (vAnd (gCall 1 m_is_name (saC (gv 1) sa0)) (gCall 1 m_is_list (saC (g2 dgetD (gv 0) (gv 1)) sa0))))) sa0))))) (sRet (fun _ => ret (.bl false))) sNil) (sSeq (sIf (bNot (tB' (gC allD (saC (gLO (gLc [1] (gItF keysD (gv 0)) (sgN 1) yes (g2 gtI (gC lenD (saC (g2 dgetD (gv 0) (gv 1)) sa0)) (fun _ => ret (.int 0))))) sa0)))) (sRet (fun _ => ret (.bl false))) sNil) (sRet (gCall 1 m_are_machines (saC (gLO (gLc2 [1, 2] [2] (gItF keysD (gv 0)) (sgN 1) yes (gIt (g2 dgetD (gv 0) (gv 1))) (sgN 2) yes (gv 2))) sa0)))))
def m_are_racks : List D → M D := runB 3 b_are_racks
def b_racked : SS := (sSeq (sIf (bNot (tB' (gCall 1 m_are_racks (saC (gv 0) sa0)))) (sThrow0 "BadRacks") sNil) (sSeq (sFor (gIt (EK.gTup (saC (gv 1) (saC (gv 2) sa0)))) (sgN 3) (sIf (bNot (tB' (gCall 3 m_is_within (saC (gv 3) (saC (fun _ => ret (.int 1)) (saC (fun _ => ret (.int 5)) sa0)))))) (sThrow1 "BadCount" "count" (gv 3)) sNil)) (sSeq (sPar 4 5 (slF (gC sortedD (saC (gLO (gLc2 [8, 9] [9] (gItF keysD (gv 0)) (sgN 8) yes (gIt (g2 dgetD (gv 0) (gv 8))) (sgN 9) yes (gv 9))) sa0))) (slO (gLD sa0))) (sSeq (sFor (gIt (gCall 1 m_lots_in_order (saC (gv 4) sa0))) (sgN 6) (sSeq (sAsg (gLO (gLc [8] (gItF keysD (gv 0)) (sgN 8) (tB' (g2 geI (gC lenD (saC (gLO (gLc [9] (gIt (g2 dgetD (gv 0) (gv 8))) (sgN 9) (tB' (g2 inD (gv 9) (gv 6))) (gv 9))) sa0)) (gv 1))) (gv 8))) (sgN 7)) (sIf (tB' (g2 geI (gC lenD (saC (gv 7) sa0)) (gv 2))) (sApp 5 (gv 6)) sNil))) (sFrz 5 (sRet (gCall 2 m_family_of (saC (gv 4) (saC (gv 5) sa0)))))))))
def m_racked : List D → M D := runB 10 b_racked
def b_law_made : SS := (sSeq (sPar 2 3 (slF (gCall 2 m_law_take (saC (gv 0) (saC (fun _ => ret (.int 3)) sa0)))) (slF (gC lenD (saC (gv 1) sa0)))) (sSeq (sIf (tB' (g2 eqD (gv 2) (fun _ => ret (.int 0)))) (sSeq (sAsg (gC dictPD (saC (gLO (gLc [7] (gIt (gv 1)) (sgN 7) yes (EK.gTup (saC (gv 7) (saC (g2 addD (fun _ => ret (.int 1)) (gCall 2 m_law_take (saC (gv 0) (saC (fun _ => ret (.int 4)) sa0)))) sa0))))) sa0)) (sgN 4)) (sRet (gCall 2 m_weighted (saC (gv 4) (saC (g2 addD (fun _ => ret (.int 1)) (gCall 2 m_law_take (saC (gv 0) (saC (gC sumD (saC (gLO (gLc [7] (gIt (gv 1)) (sgN 7) yes (g2 dgetD (gv 4) (gv 7)))) sa0)) sa0)))) sa0))))) sNil) (sSeq (sIf (tB' (g2 eqD (gv 2) (fun _ => ret (.int 1)))) (sRet (gCall 2 m_counted (saC (gv 1) (saC (g2 addD (fun _ => ret (.int 1)) (gCall 2 m_law_take (saC (gv 0) (saC (gv 3) sa0)))) sa0)))) sNil) (sSeq (sAsg (g2 fdivD (g2 addD (gv 3) (fun _ => ret (.int 1))) (fun _ => ret (.int 2))) (sgN 5)) (sSeq (sAsg (vIf (tB' (g2 gtI (gv 3) (fun _ => ret (.int 1)))) (gDisp [((fun _ => ret (.str "r")), (gSl (gv 1) oNone (oSome (gv 5)))), ((fun _ => ret (.str "s")), (gSl (gv 1) (oSome (gv 5)) oNone))]) (gDisp [((fun _ => ret (.str "r")), (gv 1))])) (sgN 6)) (sRet (gCall 3 m_racked (saC (gv 6) (saC (fun _ => ret (.int 1)) (saC (g2 addD (fun _ => ret (.int 1)) (gCall 2 m_law_take (saC (gv 0) (saC (gC lenDctD (saC (gv 6) sa0)) sa0)))) sa0))))))))))
def m_law_made : List D → M D := runB 8 b_law_made
def b_Book_takes : SS := (sRet (gFld "Book" "own_takes" (gv 0)))
def m_Book_takes : List D → M D := runB 1 b_Book_takes
def b_need_newest : SS := (sSeq (sExpr (gCall 1 m_need_book (saC (gv 0) sa0))) (sIf (tB' (g2 neD (gProp "Book" m_Book_takes (gv 0)) (fun _ => ret (.str "newest")))) (sThrow0 "NotNewest") sNil))
def m_need_newest : List D → M D := runB 1 b_need_newest
def b_Book_machines : SS := (sRet (gFld "Book" "own_machines" (gv 0)))
def m_Book_machines : List D → M D := runB 1 b_Book_machines
def b_Book_firm : SS := (sRet (gCall 1 m_firm_of (saC (gv 0) sa0)))
def m_Book_firm : List D → M D := runB 1 b_Book_firm
def b_does_hold : SS := (sSeq (sAsg (gLO (gLc [5] (gIt (gv 2)) (sgN 5) (tB' (g2 inD (gv 5) (gv 3))) (gv 5))) (sgN 4)) (sRet (vOr (gC anyD (saC (gLO (gLc [5] (gIt (gv 4)) (sgN 5) yes (g2 inD (gv 5) (gProp "Book" m_Book_firm (gv 0))))) sa0)) (vAnd (g2 notND (gv 1) (fun _ => ret .non)) (g2 gtI (gC lenD (saC (gv 4) sa0)) (gv 1))))))
def m_does_hold : List D → M D := runB 6 b_does_hold
def b_least_ones : SS := (sSeq (sOwn 1 (gLD sa0)) (sSeq (sFor (gIt (gv 0)) (sgN 2) (sIf (bNot (tB' (gC anyD (saC (gLO (gLc [3] (gItO 1) (sgN 3) yes (gC allD (saC (gLO (gLc [4] (gIt (gv 3)) (sgN 4) yes (g2 inD (gv 4) (gv 2)))) sa0)))) sa0)))) (sApp 1 (gv 2)) sNil)) (sFrz 1 (sRet (gv 1)))))
def m_least_ones : List D → M D := runB 5 b_least_ones
def b_widest_beside : SS := (sSeq (sAsg (gCall 1 m_lots_in_order (saC (gProp "Book" m_Book_machines (gv 0)) sa0)) (sgN 3)) (sSeq (sAsg (gLO (gLc [5] (gIt (gv 3)) (sgN 5) (tB' (gC allD (saC (gLO (gLc [6] (gIt (gProp "Family" m_Family_least (gv 2))) (sgN 6) yes (gCall 4 m_does_hold (saC (gv 0) (saC (gv 1) (saC (gv 5) (saC (gv 6) sa0))))))) sa0))) (gv 5))) (sgN 4)) (sRet (gMake "Family" 2 m_Family___init__ (saC (gProp "Book" m_Book_machines (gv 0)) (saC (gCall 1 m_least_ones (saC (gv 4) sa0)) sa0))))))
def m_widest_beside : List D → M D := runB 7 b_widest_beside
def b_widest_keep : SS := (sSeq (sExpr (gCall 1 m_need_newest (saC (gv 0) sa0))) (sSeq (sExpr (gCall 1 m_need_falls (saC (gv 1) sa0))) (sRet (gCall 3 m_widest_beside (saC (gv 0) (saC (gv 1) (saC (gProp "Book" m_Book_elect (gv 0)) sa0)))))))
def m_widest_keep : List D → M D := runB 2 b_widest_keep
def b_widest_elect : SS := (sSeq (sExpr (gCall 1 m_need_newest (saC (gv 0) sa0))) (sSeq (sExpr (gCall 1 m_need_falls (saC (gv 1) sa0))) (sRet (gCall 3 m_widest_beside (saC (gv 0) (saC (gv 1) (saC (gProp "Book" m_Book_keep (gv 0)) sa0)))))))
def m_widest_elect : List D → M D := runB 2 b_widest_elect
def b_Book_hands : SS := (sRet (gC copyD (saC (gFld "Book" "own_hands" (gv 0)) sa0)))
def m_Book_hands : List D → M D := runB 1 b_Book_hands
def b_Hand_back : SS := (sRet (gFld "Hand" "own_back" (gv 0)))
def m_Hand_back : List D → M D := runB 1 b_Hand_back
def b_made_firm : SS := (sSeq (sFor (gIt (gv 1)) (sgN 2) (sAsg (gMeth "Book" "with_hand" 2 m_Book_with_hand (gv 0) (saC (gv 2) (saC (gMake "Hand" 3 m_Hand___init__ (saC (fun _ => ret (.str "forced")) (saC (fun _ => ret (.str "forced")) (saC (gProp "Hand" m_Hand_back (g2 dgetD (gProp "Book" m_Book_hands (gv 0)) (gv 2))) sa0)))) sa0))) (sgN 0))) (sRet (gv 0)))
def m_made_firm : List D → M D := runB 3 b_made_firm
def b_firmed : SS := (sSeq (sExpr (gCall 1 m_need_book (saC (gv 0) sa0))) (sSeq (sIf (bNot (tB' (gCall 2 m_is_lot (saC (gProp "Book" m_Book_machines (gv 0)) (saC (gv 1) sa0))))) (sThrow0 "BadLot") sNil) (sRet (gCall 2 m_made_firm (saC (gv 0) (saC (gv 1) sa0))))))
def m_firmed : List D → M D := runB 2 b_firmed
def b_law_loads_right : SS := (sSeq (sAsg (gC dictPD (saC (gLO (gLc [7] (gIt (gv 1)) (sgN 7) yes (EK.gTup (saC (gv 7) (saC (g2 addD (fun _ => ret (.int 1)) (gCall 2 m_law_take (saC (gv 0) (saC (fun _ => ret (.int 5)) sa0)))) sa0))))) sa0)) (sgN 3)) (sSeq (sAsg (gC sumD (saC (gLO (gLc [7] (gIt (gv 1)) (sgN 7) yes (g2 dgetD (gv 3) (gv 7)))) sa0)) (sgN 4)) (sSeq (sAsg (g2 addD (fun _ => ret (.int 1)) (gCall 2 m_law_take (saC (gv 0) (saC (gv 4) sa0)))) (sgN 5)) (sSeq (sAsg (gMakeD "Book" 4 m_Book___init__ [.str "newest"] (saC (gv 2) (saC (gCall 2 m_weighted (saC (gv 3) (saC (gv 5) sa0))) (saC (gCall 2 m_weighted (saC (gv 3) (saC (g2 addD (g2 subD (gv 4) (gv 5)) (fun _ => ret (.int 1))) sa0))) sa0)))) (sgN 6)) (sRet (vAnd (g2 gtI (gCall 1 m_least_falls (saC (gv 6) sa0)) (fun _ => ret (.int 0))) (vAnd (gCall 2 m_is_narrower (saC (gProp "Book" m_Book_keep (gv 6)) (saC (g1M (unC "Family" m_Family___invert__) (gProp "Book" m_Book_elect (gv 6))) sa0))) (g2M (opC "Family" m_Family___eq__) (gProp "Book" m_Book_keep (gv 6)) (g1M (unC "Family" m_Family___invert__) (gProp "Book" m_Book_elect (gv 6)))))))))))
def m_law_loads_right : List D → M D := runB 8 b_law_loads_right
def b_law_counted_right : SS := (sSeq (sFor (gItC rng2 (saC (fun _ => ret (.int 1)) (saC (g2 addD (gC lenD (saC (gv 0) sa0)) (fun _ => ret (.int 1))) sa0))) (sgN 2) (sFor (gItC rng2 (saC (fun _ => ret (.int 1)) (saC (g2 addD (gC lenD (saC (gv 0) sa0)) (fun _ => ret (.int 1))) sa0))) (sgN 3) (sSeq (sAsg (gMakeD "Book" 4 m_Book___init__ [.str "newest"] (saC (gv 1) (saC (gCall 2 m_counted (saC (gv 0) (saC (gv 2) sa0))) (saC (gCall 2 m_counted (saC (gv 0) (saC (gv 3) sa0))) sa0)))) (sgN 4)) (sIf (tB' (g2 neD (gCall 1 m_least_falls (saC (gv 4) sa0)) (gC maxLD (saC (fun _ => ret (.int 0)) (saC (g2 subD (g2 addD (gv 2) (gv 3)) (gC lenD (saC (gv 0) sa0))) sa0))))) (sRet (fun _ => ret (.bl false))) sNil)))) (sRet (fun _ => ret (.bl true))))
def m_law_counted_right : List D → M D := runB 5 b_law_counted_right
end EKL


namespace K05
open PySem PySem.Spec PyProof.Rows L2 EK EKL
abbrev N_law_mixed : List Str := ["_law_draw", "_law_turn", "_law_found", "_law_prime", "_law_blend", "_law_grain"]
theorem sc_law_mixed : FnScope N_law_mixed ["_law_draw"] (defScope s_law_mixed) := ⟨rfl, rfl, rfl, by decide +kernel, rfl, by decide +kernel, by decide +kernel⟩
abbrev N_law_take : List Str := ["_law_draw", "_law_size", "_law_found"]
theorem sc_law_take : FnScope N_law_take ["_law_draw", "_law_size"] (defScope s_law_take) := ⟨rfl, rfl, rfl, by decide +kernel, rfl, by decide +kernel, by decide +kernel⟩
abbrev N_law_pick : List Str := ["_law_draw", "_law_some"]
theorem sc_law_pick : FnScope N_law_pick ["_law_draw", "_law_some"] (defScope s_law_pick) := ⟨rfl, rfl, rfl, by decide +kernel, rfl, by decide +kernel, by decide +kernel⟩
abbrev N_law_word_pair : List Str := ["_law_draw", "_law_words"]
theorem sc_law_word_pair : FnScope N_law_word_pair ["_law_draw"] (defScope s_law_word_pair) := ⟨rfl, rfl, rfl, by decide +kernel, rfl, by decide +kernel, by decide +kernel⟩
abbrev N_law_noted : List Str := ["_law_words", "_law_tape", "_law_note", "_law_notes", "_law_safe", "_law_word_here"]
theorem sc_law_noted : FnScope N_law_noted ["_law_words", "_law_tape", "_law_note"] (defScope s_law_noted) := ⟨rfl, rfl, rfl, by decide +kernel, rfl, by decide +kernel, by decide +kernel⟩
def b_law_noted : SS := (sSeq (sAsg (gv 1) (sgT (sgCons (sgN 3) (sgCons (sgN 4) sgNil)))) (sSeq (sAsg (vIf (tB' (g2 eqD (g2 ixD (gv 2) (fun _ => ret (.int 0))) (fun _ => ret (.str "promise")))) (g2 ixD (gv 0) (fun _ => ret (.int 0))) (g2 ixD (gv 0) (fun _ => ret (.int 1)))) (sgN 5)) (sSeq (sIf (bOr (tB' (g2 eqD (gv 5) (fun _ => ret (.str "none")))) (tB' (g2 inX (gv 2) (gv 3)))) (sRet (gv 1)) sNil) (sRet (EK.gTup (saC (g2 addD (gv 3) (EK.gTup (saC (gv 2) sa0))) (saC (vIf (tB' (g2 eqD (gv 5) (fun _ => ret (.str "forced")))) (g2 addD (gC lenD (saC (gv 3) sa0)) (fun _ => ret (.int 1))) (gv 4)) sa0)))))))
def m_law_noted : List D → M D := runB 6 b_law_noted
abbrev N_is_of : List Str := ["thing", "words"]
theorem sc_is_of : FnScope N_is_of ["thing", "words"] (defScope s_is_of) := ⟨rfl, rfl, rfl, by decide +kernel, rfl, by decide +kernel, by decide +kernel⟩
abbrev N_Hand___init__ : List Str := ["self", "promise", "entry", "back", "part", "word", "words"]
theorem sc_Hand___init__ : FnScope N_Hand___init__ ["self", "promise", "entry", "back"] (defScope s_Hand___init__) := ⟨rfl, rfl, rfl, by decide +kernel, rfl, by decide +kernel, by decide +kernel⟩
abbrev N_law_bent_note : List Str := ["_law_draw", "_law_note", "_law_some"]
theorem sc_law_bent_note : FnScope N_law_bent_note ["_law_draw", "_law_note"] (defScope s_law_bent_note) := ⟨rfl, rfl, rfl, by decide +kernel, rfl, by decide +kernel, by decide +kernel⟩
def b_law_bent_note : SS := (sSeq (sAsg (gLst (saC (fun _ => ret .non) (saC (EK.gTup sa0) (saC (gC listD (saC (gv 1) sa0)) (saC (g2 addD (gv 1) (EK.gTup (saC (fun _ => ret (.int 1)) sa0))) (saC (gSl (gv 1) oNone (oSome (fun _ => ret (.int 1)))) (saC (EK.gTup (saC (fun _ => ret (.str "Promise")) (saC (fun _ => ret (.int 1)) sa0))) (saC (EK.gTup (saC (fun _ => ret (.str "promise")) (saC (fun _ => ret (.int 0)) sa0))) (saC (EK.gTup (saC (fun _ => ret (.str "promise")) (saC (fun _ => ret (.int 100)) sa0))) (saC (EK.gTup (saC (fun _ => ret (.str "promise")) (saC (fun _ => ret (.bl true)) sa0))) sa0)))))))))) (sgN 2)) (sSeq (sAsg (g2 addD (gv 2) (gLst (saC (EK.gTup (saC (fun _ => ret (.str "entry")) (saC (fun _ => ret (.int 3)) sa0))) (saC (EK.gTup (saC (fun _ => ret (.str "entry")) (saC (fun _ => ret (.int 3)) (saC (fun _ => ret (.str "")) sa0)))) (saC (EK.gTup (saC (fun _ => ret (.str "entry")) (saC (fun _ => ret (.int 3)) (saC (fun _ => ret (.str "X")) sa0)))) (saC (EK.gTup (saC (fun _ => ret (.str "entry")) (saC (fun _ => ret (.int 3)) (saC (fun _ => ret (.str "x1")) sa0)))) (saC (EK.gTup (saC (fun _ => ret (.str "entry")) (saC (fun _ => ret (.int 3)) (saC (fun _ => ret (.str "a b")) sa0)))) (saC (EK.gTup (saC (fun _ => ret (.str "entry")) (saC (fun _ => ret (.int 3)) (saC (fun _ => ret (.int 5)) sa0)))) (saC (EK.gTup (saC (fun _ => ret (.str "entry")) (saC (fun _ => ret (.str "3")) (saC (fun _ => ret (.str "x")) sa0)))) (saC (fun _ => ret (.int 5)) (saC (fun _ => ret (.str "promise")) (saC (gv 1) sa0)))))))))))) (sgN 2)) (sRet (gCall 2 m_law_pick (saC (gv 0) (saC (g2 addD (gv 2) (gLst (saC (EK.gTup (saC (fun _ => ret (.str "promise")) (saC (fun _ => ret (.int 99)) sa0))) (saC (EK.gTup (saC (fun _ => ret (.str "entry")) (saC (fun _ => ret (.int 1)) (saC (fun _ => ret (.str "abcdef")) sa0)))) (saC (EK.gTup (saC (fun _ => ret (.str "entry")) (saC (fun _ => ret (.int 1)) (saC (fun _ => ret (.str "abcdefg")) sa0)))) sa0))))) sa0))))))
def m_law_bent_note : List D → M D := runB 3 b_law_bent_note
abbrev N_law_bent : List Str := ["_law_draw", "_law_tape", "_law_notes", "_law_safe", "_law_some", "_law_at", "_law_near"]
theorem sc_law_bent : FnScope N_law_bent ["_law_draw", "_law_tape"] (defScope s_law_bent) := ⟨rfl, rfl, rfl, by decide +kernel, rfl, by decide +kernel, by decide +kernel⟩
def b_law_bent : SS := (sSeq (sAsg (gv 1) (sgT (sgCons (sgN 2) (sgCons (sgN 3) sgNil)))) (sSeq (sIf (bOr (tB' (g2 eqD (gv 2) (EK.gTup sa0))) (tB' (g2 eqD (gCall 2 m_law_take (saC (gv 0) (saC (fun _ => ret (.int 3)) sa0))) (fun _ => ret (.int 0))))) (sSeq (sAsg (gLst (saC (fun _ => ret .non) (saC (EK.gTup sa0) (saC (gv 2) (saC (gLst (saC (gv 2) (saC (gv 3) sa0))) (saC (EK.gTup (saC (gC listD (saC (gv 2) sa0)) (saC (gv 3) sa0))) (saC (EK.gTup (saC (gv 2) (saC (gv 3) (saC (fun _ => ret (.int 0)) sa0)))) (saC (EK.gTup (saC (gv 2) (saC (g1 negD (fun _ => ret (.int 1))) sa0))) (saC (EK.gTup (saC (gv 2) (saC (g2 addD (gC lenD (saC (gv 2) sa0)) (fun _ => ret (.int 1))) sa0))) sa0))))))))) (sgN 4)) (sRet (gCall 2 m_law_pick (saC (gv 0) (saC (g2 addD (gv 4) (gLst (saC (EK.gTup (saC (gv 2) (saC (fun _ => ret (.bl true)) sa0))) (saC (EK.gTup (saC (gv 2) (saC (fun _ => ret .non) sa0))) (saC (EK.gTup (saC (gv 2) (saC (gC lenD (saC (gv 2) sa0)) sa0))) (saC (EK.gTup (saC (gv 2) (saC (fun _ => ret (.int 0)) sa0))) sa0)))))) sa0))))) sNil) (sSeq (sAsg (gCall 2 m_law_take (saC (gv 0) (saC (gC lenD (saC (gv 2) sa0)) sa0))) (sgN 5)) (sSeq (sOwn 6 (gLD (saC (g2 addD (g2 addD (gSl (gv 2) oNone (oSome (gv 5))) (EK.gTup (saC (gCall 2 m_law_bent_note (saC (gv 0) (saC (g2 ixD (gv 2) (gv 5)) sa0))) sa0))) (gSl (gv 2) (oSome (g2 addD (gv 5) (fun _ => ret (.int 1)))) oNone)) (saC (g2 addD (gv 2) (gSl (gv 2) (oSome (gv 5)) (oSome (g2 addD (gv 5) (fun _ => ret (.int 1)))))) (saC (gSl (gv 2) oNone (oSome (gv 5))) sa0))))) (sSeq (sIf (tB' (g2 eqD (g2 ixD (g2 ixD (gv 2) (gv 5)) (fun _ => ret (.int 0))) (fun _ => ret (.str "entry")))) (sApp 6 (g2 addD (gv 2) (EK.gTup (saC (EK.gTup (saC (fun _ => ret (.str "entry")) (saC (g2 ixD (g2 ixD (gv 2) (gv 5)) (fun _ => ret (.int 1))) (saC (g2 addD (g2 ixD (g2 ixD (gv 2) (gv 5)) (fun _ => ret (.int 2))) (gSlT (fun _ => ret (.str "q")) oNone (oSome (g2 subD (fun _ => ret (.int 6)) (gC lenD (saC (g2 ixD (g2 ixD (gv 2) (gv 5)) (fun _ => ret (.int 2))) sa0)))))) sa0)))) sa0)))) sNil) (sFrz 6 (sRet (EK.gTup (saC (gCall 2 m_law_pick (saC (gv 0) (saC (gv 6) sa0))) (saC (gv 3) sa0))))))))))
def m_law_bent : List D → M D := runB 7 b_law_bent
abbrev N_law_is_number : List Str := ["_law_item"]
theorem sc_law_is_number : FnScope N_law_is_number ["_law_item"] (defScope s_law_is_number) := ⟨rfl, rfl, rfl, by decide +kernel, rfl, by decide +kernel, by decide +kernel⟩
def b_law_is_number : SS := (sRet (vAnd (g1 (isiD [] fun t => List.lookup t ([("NoneType", false), ("bool", true), ("int", true), ("str", false), ("tuple", false), ("list", false), ("dict", false)] : List (String × Bool))) (gv 0)) (vNot (g1 (isiD [] fun t => List.lookup t ([("NoneType", false), ("bool", true), ("int", false), ("str", false), ("tuple", false), ("list", false), ("dict", false)] : List (String × Bool))) (gv 0)))))
def m_law_is_number : List D → M D := runB 1 b_law_is_number
abbrev N_law_is_name : List Str := ["_law_item", "_law_letter"]
theorem sc_law_is_name : FnScope N_law_is_name ["_law_item"] (defScope s_law_is_name) := ⟨rfl, rfl, rfl, by decide +kernel, rfl, by decide +kernel, by decide +kernel⟩
def b_law_is_name : SS := (sSeq (sIf (bOr (bNot (tB' (g1 (isiD [] fun t => List.lookup t ([("NoneType", false), ("bool", false), ("int", false), ("str", true), ("tuple", false), ("list", false), ("dict", false)] : List (String × Bool))) (gv 0)))) (bNot (tB' (g3 leI leI (fun _ => ret (.int 1)) (gC lenD (saC (gv 0) sa0)) (fun _ => ret (.int 6)))))) (sRet (fun _ => ret (.bl false))) sNil) (sRet (g2 eqD (gLO (gLc [1] (gIt (gv 0)) (sgN 1) (tB' (g2 ninD (gv 1) (fun _ => ret (.str "abcdefghijklmnopqrstuvwxyz")))) (gv 1))) (gLst sa0))))
def m_law_is_name : List D → M D := runB 2 b_law_is_name
abbrev N_law_is_note : List Str := ["_law_item"]
theorem sc_law_is_note : FnScope N_law_is_note ["_law_item"] (defScope s_law_is_note) := ⟨rfl, rfl, rfl, by decide +kernel, rfl, by decide +kernel, by decide +kernel⟩
def b_law_is_note : SS := (sSeq (sIf (bOr (bNot (tB' (g1 (isiD [] fun t => List.lookup t ([("NoneType", false), ("bool", false), ("int", false), ("str", false), ("tuple", true), ("list", false), ("dict", false)] : List (String × Bool))) (gv 0)))) (bOr (tB' (g2 ninX (gC lenD (saC (gv 0) sa0)) (EK.gTup (saC (fun _ => ret (.int 2)) (saC (fun _ => ret (.int 3)) sa0))))) (bNot (tB' (g1 (isiD [] fun t => List.lookup t ([("NoneType", false), ("bool", false), ("int", false), ("str", true), ("tuple", false), ("list", false), ("dict", false)] : List (String × Bool))) (g2 ixD (gv 0) (fun _ => ret (.int 0)))))))) (sRet (fun _ => ret (.bl false))) sNil) (sSeq (sIf (bOr (bNot (tB' (gCall 1 m_law_is_number (saC (g2 ixD (gv 0) (fun _ => ret (.int 1))) sa0)))) (bNot (tB' (g3 leI leI (fun _ => ret (.int 1)) (g2 ixD (gv 0) (fun _ => ret (.int 1))) (fun _ => ret (.int 99)))))) (sRet (fun _ => ret (.bl false))) sNil) (sRet (vIf (tB' (g2 eqD (gC lenD (saC (gv 0) sa0)) (fun _ => ret (.int 2)))) (g2 eqD (g2 ixD (gv 0) (fun _ => ret (.int 0))) (fun _ => ret (.str "promise"))) (vAnd (g2 eqD (g2 ixD (gv 0) (fun _ => ret (.int 0))) (fun _ => ret (.str "entry"))) (gCall 1 m_law_is_name (saC (g2 ixD (gv 0) (fun _ => ret (.int 2))) sa0)))))))
def m_law_is_note : List D → M D := runB 1 b_law_is_note
abbrev N_law_are_notes : List Str := ["_law_item", "_law_at", "_law_note", "_law_mate"]
theorem sc_law_are_notes : FnScope N_law_are_notes ["_law_item"] (defScope s_law_are_notes) := ⟨rfl, rfl, rfl, by decide +kernel, rfl, by decide +kernel, by decide +kernel⟩
def b_law_are_notes : SS := (sSeq (sIf (bOr (bNot (tB' (g1 (isiD [] fun t => List.lookup t ([("NoneType", false), ("bool", false), ("int", false), ("str", false), ("tuple", true), ("list", false), ("dict", false)] : List (String × Bool))) (gv 0)))) (tB' (g2 neD (gLO (gLc [2] (gIt (gv 0)) (sgN 2) (bNot (tB' (gCall 1 m_law_is_note (saC (gv 2) sa0)))) (fun _ => ret (.int 1)))) (gLst sa0)))) (sRet (fun _ => ret (.bl false))) sNil) (sSeq (sFor (gItC enumA (saC (gv 0) sa0)) (sgT (sgCons (sgN 1) (sgCons (sgN 2) sgNil))) (sIf (tB' (g2 neD (gLO (gLc [3] (gIt (gSl (gv 0) oNone (oSome (gv 1)))) (sgN 3) (bOr (tB' (g2 eqD (gv 3) (gv 2))) (bAnd (tB' (g3 eqD eqD (gC lenD (saC (gv 3) sa0)) (gC lenD (saC (gv 2) sa0)) (fun _ => ret (.int 3)))) (tB' (g2 eqD (g2 ixD (gv 3) (fun _ => ret (.int 1))) (g2 ixD (gv 2) (fun _ => ret (.int 1))))))) (fun _ => ret (.int 1)))) (gLst sa0))) (sRet (fun _ => ret (.bl false))) sNil)) (sRet (fun _ => ret (.bl true)))))
def m_law_are_notes : List D → M D := runB 4 b_law_are_notes
abbrev N_law_is_tape : List Str := ["_law_item"]
theorem sc_law_is_tape : FnScope N_law_is_tape ["_law_item"] (defScope s_law_is_tape) := ⟨rfl, rfl, rfl, by decide +kernel, rfl, by decide +kernel, by decide +kernel⟩
def b_law_is_tape : SS := (sSeq (sIf (bOr (bNot (tB' (g1 (isiD [] fun t => List.lookup t ([("NoneType", false), ("bool", false), ("int", false), ("str", false), ("tuple", true), ("list", false), ("dict", false)] : List (String × Bool))) (gv 0)))) (bOr (tB' (g2 neD (gC lenD (saC (gv 0) sa0)) (fun _ => ret (.int 2)))) (bNot (tB' (gCall 1 m_law_are_notes (saC (g2 ixD (gv 0) (fun _ => ret (.int 0))) sa0)))))) (sRet (fun _ => ret (.bl false))) sNil) (sRet (vAnd (gCall 1 m_law_is_number (saC (g2 ixD (gv 0) (fun _ => ret (.int 1))) sa0)) (g3 leI leI (fun _ => ret (.int 0)) (g2 ixD (gv 0) (fun _ => ret (.int 1))) (gC lenD (saC (g2 ixD (gv 0) (fun _ => ret (.int 0))) sa0))))))
def m_law_is_tape : List D → M D := runB 1 b_law_is_tape
abbrev N_law_does_fit : List Str := ["_law_notes", "_law_note", "_law_mate"]
theorem sc_law_does_fit : FnScope N_law_does_fit ["_law_notes", "_law_note"] (defScope s_law_does_fit) := ⟨rfl, rfl, rfl, by decide +kernel, rfl, by decide +kernel, by decide +kernel⟩
def b_law_does_fit : SS := (sRet (g2 eqD (gLO (gLc [2] (gIt (gv 0)) (sgN 2) (bAnd (tB' (g2 eqD (gC lenD (saC (gv 1) sa0)) (fun _ => ret (.int 3)))) (bAnd (tB' (g2 eqD (gSl (gv 2) oNone (oSome (fun _ => ret (.int 2)))) (gSl (gv 1) oNone (oSome (fun _ => ret (.int 2)))))) (tB' (g2 neD (gv 2) (gv 1))))) (fun _ => ret (.int 1)))) (gLst sa0)))
def m_law_does_fit : List D → M D := runB 3 b_law_does_fit
abbrev N_law_word : List Str := ["_law_job", "_law_error"]
theorem sc_law_word : FnScope N_law_word ["_law_job"] (defScope s_law_word) := ⟨rfl, rfl, rfl, by decide +kernel, rfl, by decide +kernel, by decide +kernel⟩
def b_law_word : SS := (sSeq (sIf (tB' (g1 (isiXD [("BadHand", true), ("BadLeft", false), ("BadLog", false), ("BadRecord", false)] [] fun t => List.lookup t ([("NoneType", false), ("bool", false), ("int", false), ("str", false), ("tuple", false), ("list", false), ("dict", false)] : List (String × Bool))) (gv 1))) (sRet (gLst (saC (fun _ => ret (.str "hand")) (saC (g1 (fldXD ["BadHand"] "part") (gv 1)) sa0)))) sNil) (sSeq (sIf (tB' (g1 (isiXD [("BadHand", false), ("BadLeft", true), ("BadLog", false), ("BadRecord", false)] [] fun t => List.lookup t ([("NoneType", false), ("bool", false), ("int", false), ("str", false), ("tuple", false), ("list", false), ("dict", false)] : List (String × Bool))) (gv 1))) (sRet (gLst (saC (fun _ => ret (.str "rest")) (saC (g1 (fldXD ["BadLeft"] "left") (gv 1)) sa0)))) sNil) (sRet (vIf (tB' (g1 (isiXD [("BadHand", false), ("BadLeft", false), ("BadLog", true), ("BadRecord", false)] [] fun t => List.lookup t ([("NoneType", false), ("bool", false), ("int", false), ("str", false), ("tuple", false), ("list", false), ("dict", false)] : List (String × Bool))) (gv 1))) (gLst (saC (fun _ => ret (.str "tape")) sa0)) (vIf (tB' (g1 (isiXD [("BadHand", false), ("BadLeft", false), ("BadLog", false), ("BadRecord", true)] [] fun t => List.lookup t ([("NoneType", false), ("bool", false), ("int", false), ("str", false), ("tuple", false), ("list", false), ("dict", false)] : List (String × Bool))) (gv 1))) (gLst (saC (fun _ => ret (.str "note")) sa0)) (gLst (saC (g2 isND (gv 1) (fun _ => ret .non)) sa0)))))))
theorem hs_law_word : ∃ q1 p1 p2 p3 q2, defBody s_law_word = .Assign [.Name "_law_error" q1] (.Call (.Name "_law_caught" p1) [.Name "_law_job" p2] [] p3) q2 :: (defBody s_law_word).tail := ⟨_, _, _, _, _, rfl⟩
abbrev N_is_number : List Str := ["thing"]
theorem sc_is_number : FnScope N_is_number ["thing"] (defScope s_is_number) := ⟨rfl, rfl, rfl, by decide +kernel, rfl, by decide +kernel, by decide +kernel⟩
abbrev N_is_term : List Str := ["thing"]
theorem sc_is_term : FnScope N_is_term ["thing"] (defScope s_is_term) := ⟨rfl, rfl, rfl, by decide +kernel, rfl, by decide +kernel, by decide +kernel⟩
abbrev N_is_name : List Str := ["thing", "sign"]
theorem sc_is_name : FnScope N_is_name ["thing"] (defScope s_is_name) := ⟨rfl, rfl, rfl, by decide +kernel, rfl, by decide +kernel, by decide +kernel⟩
abbrev N_is_pair : List Str := ["thing"]
theorem sc_is_pair : FnScope N_is_pair ["thing"] (defScope s_is_pair) := ⟨rfl, rfl, rfl, by decide +kernel, rfl, by decide +kernel, by decide +kernel⟩
abbrev N_is_record : List Str := ["thing"]
theorem sc_is_record : FnScope N_is_record ["thing"] (defScope s_is_record) := ⟨rfl, rfl, rfl, by decide +kernel, rfl, by decide +kernel, by decide +kernel⟩
abbrev N_fits : List Str := ["records", "record", "one"]
theorem sc_fits : FnScope N_fits ["records", "record"] (defScope s_fits) := ⟨rfl, rfl, rfl, by decide +kernel, rfl, by decide +kernel, by decide +kernel⟩
abbrev N_are_records : List Str := ["thing", "one", "at"]
theorem sc_are_records : FnScope N_are_records ["thing"] (defScope s_are_records) := ⟨rfl, rfl, rfl, by decide +kernel, rfl, by decide +kernel, by decide +kernel⟩
abbrev N_is_log : List Str := ["thing"]
theorem sc_is_log : FnScope N_is_log ["thing"] (defScope s_is_log) := ⟨rfl, rfl, rfl, by decide +kernel, rfl, by decide +kernel, by decide +kernel⟩
abbrev N_need_log : List Str := ["log"]
theorem sc_need_log : FnScope N_need_log ["log"] (defScope s_need_log) := ⟨rfl, rfl, rfl, by decide +kernel, rfl, by decide +kernel, by decide +kernel⟩
abbrev N_written_by : List Str := ["hand", "log", "record", "records", "safe", "word"]
theorem sc_written_by : FnScope N_written_by ["hand", "log", "record"] (defScope s_written_by) := ⟨rfl, rfl, rfl, by decide +kernel, rfl, by decide +kernel, by decide +kernel⟩
abbrev N_written : List Str := ["hand", "log", "record"]
theorem sc_written : FnScope N_written ["hand", "log", "record"] (defScope s_written) := ⟨rfl, rfl, rfl, by decide +kernel, rfl, by decide +kernel, by decide +kernel⟩
abbrev N_leavings : List Str := ["log"]
theorem sc_leavings : FnScope N_leavings ["log"] (defScope s_leavings) := ⟨rfl, rfl, rfl, by decide +kernel, rfl, by decide +kernel, by decide +kernel⟩
abbrev N_can_leave : List Str := ["log"]
theorem sc_can_leave : FnScope N_can_leave ["log"] (defScope s_can_leave) := ⟨rfl, rfl, rfl, by decide +kernel, rfl, by decide +kernel, by decide +kernel⟩
abbrev N_fallen : List Str := ["log", "left"]
theorem sc_fallen : FnScope N_fallen ["log", "left"] (defScope s_fallen) := ⟨rfl, rfl, rfl, by decide +kernel, rfl, by decide +kernel, by decide +kernel⟩
abbrev N_read_of : List Str := ["records", "promised", "taken", "record"]
theorem sc_read_of : FnScope N_read_of ["records"] (defScope s_read_of) := ⟨rfl, rfl, rfl, by decide +kernel, rfl, by decide +kernel, by decide +kernel⟩
abbrev N_read : List Str := ["records"]
theorem sc_read : FnScope N_read ["records"] (defScope s_read) := ⟨rfl, rfl, rfl, by decide +kernel, rfl, by decide +kernel, by decide +kernel⟩
abbrev N_may_forget : List Str := ["hand", "words", "name", "word"]
theorem sc_may_forget : FnScope N_may_forget ["hand"] (defScope s_may_forget) := ⟨rfl, rfl, rfl, by decide +kernel, rfl, by decide +kernel, by decide +kernel⟩
abbrev N_law_full_right : List Str := ["_law_draw", "_law_notes", "_law_fist", "_law_tape", "_law_num"]
theorem sc_law_full_right : FnScope N_law_full_right ["_law_draw"] (defScope s_law_full_right) := ⟨rfl, rfl, rfl, by decide +kernel, rfl, by decide +kernel, by decide +kernel⟩
def b_law_full_right : SS := (sSeq (sAsg (gC tupleD (saC (g2 addD (gLO (gLc [4] (gItC rng2 (saC (fun _ => ret (.int 1)) (saC (fun _ => ret (.int 100)) sa0))) (sgN 4) yes (EK.gTup (saC (fun _ => ret (.str "promise")) (saC (gv 4) sa0))))) (gLO (gLc [4] (gItC rng2 (saC (fun _ => ret (.int 1)) (saC (fun _ => ret (.int 100)) sa0))) (sgN 4) yes (EK.gTup (saC (fun _ => ret (.str "entry")) (saC (gv 4) (saC (fun _ => ret (.str "x")) sa0))))))) sa0)) (sgN 1)) (sSeq (sAsg (EK.gTup (saC (gMakeD "Hand" 3 m_Hand___init__ [.str "at once"] (saC (gCall 2 m_law_pick (saC (gv 0) (saC (gLst (saC (fun _ => ret (.str "none")) (saC (fun _ => ret (.str "lazy")) (saC (fun _ => ret (.str "forced")) sa0)))) sa0))) (saC (fun _ => ret (.str "forced")) sa0))) (saC (EK.gTup (saC (gv 1) (saC (fun _ => ret (.int 7)) sa0))) sa0))) (sgT (sgCons (sgN 2) (sgCons (sgN 3) sgNil)))) (sSeq (sIf (tB' (g2 neD (gLst (saC (gWord ["BadHand", "BadLeft", "BadLog", "BadRecord"] (gCall 1 m_read (saC (g2 addD (gv 1) (gSl (gv 1) oNone (oSome (fun _ => ret (.int 3))))) sa0)) 2 b_law_word) sa0)) (gLst (saC (gLst (saC (fun _ => ret (.str "tape")) sa0)) sa0)))) (sRet (fun _ => ret (.bl false))) sNil) (sSeq (sIf (bOr (tB' (g2 neD (gCall 3 m_written (saC (gv 2) (saC (gv 3) (saC (EK.gTup (saC (fun _ => ret (.str "entry")) (saC (fun _ => ret (.int 5)) (saC (fun _ => ret (.str "x")) sa0)))) sa0)))) (gv 3))) (tB' (g2 neD (gWord ["BadHand", "BadLeft", "BadLog", "BadRecord"] (gCall 3 m_written (saC (gv 2) (saC (gv 3) (saC (EK.gTup (saC (fun _ => ret (.str "entry")) (saC (fun _ => ret (.int 5)) (saC (fun _ => ret (.str "y")) sa0)))) sa0)))) 2 b_law_word) (gLst (saC (fun _ => ret (.str "note")) sa0))))) (sRet (fun _ => ret (.bl false))) sNil) (sRet (vAnd (g2 eqD (gCall 1 m_read (saC (gv 1) sa0)) (EK.gTup (saC (fun _ => ret (.int 99)) (saC (EK.gTup (saC (fun _ => ret (.int 99)) (saC (fun _ => ret (.str "x")) sa0))) sa0)))) (g2 eqD (gCall 1 m_can_leave (saC (gv 3) sa0)) (gLO (gItC asI2 (saC (fun _ => ret (.int 7)) (saC (fun _ => ret (.int 199)) sa0)))))))))))
def m_law_full_right : List D → M D := runB 5 b_law_full_right
abbrev N_law : List Str := ["_law_script", "_law_draw", "_law_turn", "_law_tape", "_law_words", "_law_step", "_law_note", "_law_fist", "_law_item", "_law_bend", "_law_due", "_law_rest", "_law_told", "_law_notes"]
theorem sc_law : FnScope N_law ["_law_script"] (defScope s_law) := ⟨rfl, rfl, rfl, by decide +kernel, rfl, by decide +kernel, by decide +kernel⟩
def b_law : SS := (sSeq (sFor (gItC rng1 (saC (g2 addD (fun _ => ret (.int 3)) (gC min2D (saC (gC lenD (saC (gv 0) sa0)) (saC (fun _ => ret (.int 12)) sa0)))) sa0)) (sgN 2) (sSeq (sAsg (EK.gTup (saC (EK.gTup (saC (EK.gTup sa0) (saC (fun _ => ret (.int 0)) sa0))) (saC (gCall 1 m_law_word_pair (saC (gv 1) sa0)) sa0))) (sgT (sgCons (sgN 3) (sgCons (sgN 4) sgNil)))) (sSeq (sFor (gItC rng1 (saC (gCall 2 m_law_take (saC (gv 1) (saC (fun _ => ret (.int 6)) sa0))) sa0)) (sgN 5) (sSeq (sAsg (gCall 2 m_law_pick (saC (gv 1) (saC (gLst (saC (EK.gTup (saC (fun _ => ret (.str "promise")) (saC (g2 addD (fun _ => ret (.int 1)) (gCall 2 m_law_take (saC (gv 1) (saC (fun _ => ret (.int 5)) sa0)))) sa0))) (saC (EK.gTup (saC (fun _ => ret (.str "entry")) (saC (g2 addD (fun _ => ret (.int 1)) (gCall 2 m_law_take (saC (gv 1) (saC (fun _ => ret (.int 5)) sa0)))) (saC (fun _ => ret (.str "x")) sa0)))) sa0))) sa0))) (sgN 6)) (sAsg (gCall 3 m_law_noted (saC (EK.gTup (saC (fun _ => ret (.str "lazy")) (saC (gCall 2 m_law_pick (saC (gv 1) (saC (gLst (saC (fun _ => ret (.str "lazy")) (saC (fun _ => ret (.str "forced")) sa0))) sa0))) (saC (fun _ => ret (.str "at once")) sa0)))) (saC (gv 3) (saC (gv 6) sa0)))) (sgN 3)))) (sSeq (sAsg (gCall 2 m_law_pick (saC (gv 1) (saC (g2 addD (g2 mulD (gLst (saC (gMake "Hand" 3 m_Hand___init__ (saC (g2 ixD (gv 4) (fun _ => ret (.int 0))) (saC (g2 ixD (gv 4) (fun _ => ret (.int 1))) (saC (g2 ixD (gv 4) (fun _ => ret (.int 2))) sa0)))) sa0)) (fun _ => ret (.int 4))) (gLst (saC (fun _ => ret .non) (saC (fun _ => ret (.str "hand")) (saC (gv 4) sa0))))) sa0))) (sgN 7)) (sSeq (sAsg (EK.gTup (saC (gv 3) (saC (EK.gTup (saC (fun _ => ret (.str "promise")) (saC (g2 addD (fun _ => ret (.int 1)) (gCall 2 m_law_take (saC (gv 1) (saC (fun _ => ret (.int 9)) sa0)))) sa0))) sa0))) (sgT (sgCons (sgN 8) (sgCons (sgN 6) sgNil)))) (sSeq (sFor (gItC rng1 (saC (gCall 2 m_law_pick (saC (gv 1) (saC (gLst (saC (fun _ => ret (.int 0)) (saC (fun _ => ret (.int 1)) (saC (fun _ => ret (.int 1)) sa0)))) sa0))) sa0)) (sgN 9) (sAsg (gCall 2 m_law_bent (saC (gv 1) (saC (gv 3) sa0))) (sgN 8))) (sSeq (sAsg (gCall 2 m_law_pick (saC (gv 1) (saC (gLst (saC (gv 6) (saC (gv 6) (saC (gCall 2 m_law_bent_note (saC (gv 1) (saC (gv 6) sa0))) (saC (EK.gTup (saC (fun _ => ret (.str "entry")) (saC (g2 addD (fun _ => ret (.int 1)) (gCall 2 m_law_take (saC (gv 1) (saC (fun _ => ret (.int 5)) sa0)))) (saC (fun _ => ret (.str "y")) sa0)))) sa0))))) sa0))) (sgN 6)) (sSeq (sAsg (gLst (saC (fun _ => ret (.bl true)) sa0)) (sgN 10)) (sSeq (sIf (bNot (tB' (g1 (isiD [("Hand", true)] fun t => List.lookup t ([("NoneType", false), ("bool", false), ("int", false), ("str", false), ("tuple", false), ("list", false), ("dict", false)] : List (String × Bool))) (gv 7)))) (sAsg (gLst (saC (fun _ => ret (.str "hand")) (saC (fun _ => ret (.str "hand")) sa0))) (sgN 10)) (sIf (bNot (tB' (gCall 1 m_law_is_tape (saC (gv 8) sa0)))) (sAsg (gLst (saC (fun _ => ret (.str "tape")) sa0)) (sgN 10)) (sIf (bOr (bNot (tB' (gCall 1 m_law_is_note (saC (gv 6) sa0)))) (bNot (tB' (gCall 2 m_law_does_fit (saC (g2 ixD (gv 8) (fun _ => ret (.int 0))) (saC (gv 6) sa0)))))) (sAsg (gLst (saC (fun _ => ret (.str "note")) sa0)) (sgN 10)) sNil))) (sSeq (sIf (tB' (g2 neD (gWord ["BadHand", "BadLeft", "BadLog", "BadRecord"] (gCall 3 m_written (saC (gv 7) (saC (gv 8) (saC (gv 6) sa0)))) 2 b_law_word) (gv 10))) (sRet (fun _ => ret (.bl false))) sNil) (sSeq (sAsg (vIf (tB' (gCall 1 m_law_is_tape (saC (gv 8) sa0))) (gLst (saC (fun _ => ret (.bl true)) sa0)) (gLst (saC (fun _ => ret (.str "tape")) sa0))) (sgN 10)) (sSeq (sAsg (gCall 2 m_law_pick (saC (gv 1) (saC (gLst (saC (fun _ => ret .non) (saC (g1 negD (fun _ => ret (.int 1))) (saC (fun _ => ret (.int 7)) (saC (fun _ => ret (.bl true)) (saC (fun _ => ret (.str "0")) (saC (fun _ => ret (.int 0)) (saC (fun _ => ret (.int 1)) (saC (fun _ => ret (.int 2)) sa0))))))))) sa0))) (sgN 11)) (sSeq (sOwn 12 (gLD (saC (gWord ["BadHand", "BadLeft", "BadLog", "BadRecord"] (gCall 1 m_can_leave (saC (gv 8) sa0)) 2 b_law_word) sa0))) (sSeq (sApp 12 (gWord ["BadHand", "BadLeft", "BadLog", "BadRecord"] (gCall 2 m_fallen (saC (gv 8) (saC (gv 11) sa0))) 2 b_law_word)) (sSeq (sIf (bAnd (tB' (g2 eqD (gv 10) (gLst (saC (fun _ => ret (.bl true)) sa0)))) (bOr (bNot (tB' (gCall 1 m_law_is_number (saC (gv 11) sa0)))) (bNot (tB' (g3 leP leI (g2 ixD (gv 8) (fun _ => ret (.int 1))) (gv 11) (gC lenD (saC (g2 ixD (gv 8) (fun _ => ret (.int 0))) sa0))))))) (sAsg (gLst (saC (gLst (saC (fun _ => ret (.bl true)) sa0)) (saC (gLst (saC (fun _ => ret (.str "rest")) (saC (gv 11) sa0))) sa0))) (sgN 10)) (sAsg (gLst (saC (gv 10) (saC (gv 10) sa0))) (sgN 10))) (sFrz 12 (sSeq (sIf (tB' (g2 neS (gC reprD (saC (gv 12) sa0)) (gC reprD (saC (gv 10) sa0)))) (sRet (fun _ => ret (.bl false))) sNil) (sSeq (sAsg (vIf (bAnd (tB' (g1 (isiD [] fun t => List.lookup t ([("NoneType", false), ("bool", false), ("int", false), ("str", false), ("tuple", true), ("list", false), ("dict", false)] : List (String × Bool))) (gv 8))) (tB' (g2 eqD (gC lenD (saC (gv 8) sa0)) (fun _ => ret (.int 2))))) (g2 ixD (gv 8) (fun _ => ret (.int 0))) (gv 8)) (sgN 13)) (sSeq (sIf (tB' (g2 neD (gWord ["BadHand", "BadLeft", "BadLog", "BadRecord"] (gCall 1 m_read (saC (gv 13) sa0)) 2 b_law_word) (vIf (tB' (gCall 1 m_law_are_notes (saC (gv 13) sa0))) (gLst (saC (fun _ => ret (.bl true)) sa0)) (gLst (saC (fun _ => ret (.str "tape")) sa0))))) (sRet (fun _ => ret (.bl false))) sNil) (sIf (tB' (g2 neD (gWord ["BadHand", "BadLeft", "BadLog", "BadRecord"] (gCall 1 m_may_forget (saC (gCall 2 m_law_pick (saC (gv 1) (saC (gLst (saC (fun _ => ret .non) (saC (fun _ => ret (.int 5)) (saC (gv 4) (saC (fun _ => ret (.str "forced")) sa0))))) sa0))) sa0)) 2 b_law_word) (gLst (saC (fun _ => ret (.str "hand")) (saC (fun _ => ret (.str "hand")) sa0))))) (sRet (fun _ => ret (.bl false))) sNil)))))))))))))))))))) (sRet (vOr (g2 gtI (gCall 2 m_law_take (saC (gv 1) (saC (fun _ => ret (.int 5)) sa0))) (fun _ => ret (.int 0))) (gCall 1 m_law_full_right (saC (gv 1) sa0)))))
def m_law : List Int → M D := runL 14 b_law
structure Tx (hp : Heap) (K : PySem.W.Frag) (mg : Str → Option Value) : Prop where
  c : SaysW fa fn fx gt tf xd hp K
  h : ∃ h : Heap, K.In h ∧ h.Ns mainGlobals mg
section
variable {w : World} {hp : Heap} {K : PySem.W.Frag} {mg : Str → Option Value} {base : Heap} (T : Tx hp K mg)
include T
theorem n_abs : mg "abs" = none := by obtain ⟨h, X, G⟩ := T.h; exact He.free_ok X G (T.c.z.y.d.fact 0 (f := .free "abs") rfl)
theorem n_int : mg "int" = none := by obtain ⟨h, X, G⟩ := T.h; exact He.free_ok X G (T.c.z.y.d.fact 1 (f := .free "int") rfl)
theorem g__law_begun : mg "_law_begun" = some (.ref (He.ga K "_law_begun")) := by obtain ⟨h, X, G⟩ := T.h; exact He.glo_ok X G (T.c.z.y.d.fact 2 (f := .glo "_law_begun") rfl)
theorem n_len : mg "len" = none := by obtain ⟨h, X, G⟩ := T.h; exact He.free_ok X G (T.c.z.y.d.fact 3 (f := .free "len") rfl)
theorem n_min : mg "min" = none := by obtain ⟨h, X, G⟩ := T.h; exact He.free_ok X G (T.c.z.y.d.fact 4 (f := .free "min") rfl)
theorem n_range : mg "range" = none := by obtain ⟨h, X, G⟩ := T.h; exact He.free_ok X G (T.c.z.y.d.fact 5 (f := .free "range") rfl)
theorem g__law_mixed : mg "_law_mixed" = some (.ref (He.ga K "_law_mixed")) := by obtain ⟨h, X, G⟩ := T.h; exact He.glo_ok X G (T.c.z.y.d.fact 6 (f := .glo "_law_mixed") rfl)
theorem g__law_take : mg "_law_take" = some (.ref (He.ga K "_law_take")) := by obtain ⟨h, X, G⟩ := T.h; exact He.glo_ok X G (T.c.z.y.d.fact 7 (f := .glo "_law_take") rfl)
theorem g__law_pick : mg "_law_pick" = some (.ref (He.ga K "_law_pick")) := by obtain ⟨h, X, G⟩ := T.h; exact He.glo_ok X G (T.c.z.y.d.fact 8 (f := .glo "_law_pick") rfl)
theorem g__law_word_pair : mg "_law_word_pair" = some (.ref (He.ga K "_law_word_pair")) := by obtain ⟨h, X, G⟩ := T.h; exact He.glo_ok X G (T.c.z.y.d.fact 9 (f := .glo "_law_word_pair") rfl)
theorem g__law_noted : mg "_law_noted" = some (.ref (He.ga K "_law_noted")) := by obtain ⟨h, X, G⟩ := T.h; exact He.glo_ok X G (T.c.z.y.d.fact 10 (f := .glo "_law_noted") rfl)
theorem g_WORDS : mg "WORDS" = some (.ref (He.ga K "WORDS")) := by obtain ⟨h, X, G⟩ := T.h; exact He.glo_ok X G (T.c.z.y.d.fact 11 (f := .glo "WORDS") rfl)
theorem g_BACKS : mg "BACKS" = some (.ref (He.ga K "BACKS")) := by obtain ⟨h, X, G⟩ := T.h; exact He.glo_ok X G (T.c.z.y.d.fact 12 (f := .glo "BACKS") rfl)
theorem n_str : mg "str" = none := by obtain ⟨h, X, G⟩ := T.h; exact He.free_ok X G (T.c.z.y.d.fact 13 (f := .free "str") rfl)
theorem n_isinstance : mg "isinstance" = none := by obtain ⟨h, X, G⟩ := T.h; exact He.free_ok X G (T.c.z.y.d.fact 14 (f := .free "isinstance") rfl)
theorem g_is_of : mg "is_of" = some (.ref (He.ga K "is_of")) := by obtain ⟨h, X, G⟩ := T.h; exact He.glo_ok X G (T.c.z.y.d.fact 15 (f := .glo "is_of") rfl)
theorem g_BadHand : mg "BadHand" = some (.ref (He.ga K "BadHand")) := by obtain ⟨h, X, G⟩ := T.h; exact He.glo_ok X G (T.c.z.y.d.fact 16 (f := .glo "BadHand") rfl)
theorem g_Hand : mg "Hand" = some (.ref (He.ga K "Hand")) := by obtain ⟨h, X, G⟩ := T.h; exact He.glo_ok X G (T.c.z.y.d.fact 17 (f := .glo "Hand") rfl)
theorem cl_Hand : Cls K (He.ga K "Hand") := He.cls_ok (T.c.z.y.d.fact 18 (f := .cls "Hand") rfl)
theorem mk_Hand : (He.Fa.mkr "Hand").ok K = true := T.c.z.y.d.fact 22 (f := .mkr "Hand") rfl
theorem n_list : mg "list" = none := by obtain ⟨h, X, G⟩ := T.h; exact He.free_ok X G (T.c.z.y.d.fact 23 (f := .free "list") rfl)
theorem g__law_bent_note : mg "_law_bent_note" = some (.ref (He.ga K "_law_bent_note")) := by obtain ⟨h, X, G⟩ := T.h; exact He.glo_ok X G (T.c.z.y.d.fact 24 (f := .glo "_law_bent_note") rfl)
theorem g__law_bent : mg "_law_bent" = some (.ref (He.ga K "_law_bent")) := by obtain ⟨h, X, G⟩ := T.h; exact He.glo_ok X G (T.c.z.y.d.fact 25 (f := .glo "_law_bent") rfl)
theorem n_tuple : mg "tuple" = none := by obtain ⟨h, X, G⟩ := T.h; exact He.free_ok X G (T.c.z.y.d.fact 26 (f := .free "tuple") rfl)
theorem n_bool : mg "bool" = none := by obtain ⟨h, X, G⟩ := T.h; exact He.free_ok X G (T.c.z.y.d.fact 27 (f := .free "bool") rfl)
theorem g__law_is_number : mg "_law_is_number" = some (.ref (He.ga K "_law_is_number")) := by obtain ⟨h, X, G⟩ := T.h; exact He.glo_ok X G (T.c.z.y.d.fact 28 (f := .glo "_law_is_number") rfl)
theorem g__law_is_name : mg "_law_is_name" = some (.ref (He.ga K "_law_is_name")) := by obtain ⟨h, X, G⟩ := T.h; exact He.glo_ok X G (T.c.z.y.d.fact 29 (f := .glo "_law_is_name") rfl)
theorem g__law_is_note : mg "_law_is_note" = some (.ref (He.ga K "_law_is_note")) := by obtain ⟨h, X, G⟩ := T.h; exact He.glo_ok X G (T.c.z.y.d.fact 30 (f := .glo "_law_is_note") rfl)
theorem n_enumerate : mg "enumerate" = none := by obtain ⟨h, X, G⟩ := T.h; exact He.free_ok X G (T.c.z.y.d.fact 31 (f := .free "enumerate") rfl)
theorem g__law_are_notes : mg "_law_are_notes" = some (.ref (He.ga K "_law_are_notes")) := by obtain ⟨h, X, G⟩ := T.h; exact He.glo_ok X G (T.c.z.y.d.fact 32 (f := .glo "_law_are_notes") rfl)
theorem g__law_is_tape : mg "_law_is_tape" = some (.ref (He.ga K "_law_is_tape")) := by obtain ⟨h, X, G⟩ := T.h; exact He.glo_ok X G (T.c.z.y.d.fact 33 (f := .glo "_law_is_tape") rfl)
theorem g__law_does_fit : mg "_law_does_fit" = some (.ref (He.ga K "_law_does_fit")) := by obtain ⟨h, X, G⟩ := T.h; exact He.glo_ok X G (T.c.z.y.d.fact 34 (f := .glo "_law_does_fit") rfl)
theorem g_BadRecord : mg "BadRecord" = some (.ref (He.ga K "BadRecord")) := by obtain ⟨h, X, G⟩ := T.h; exact He.glo_ok X G (T.c.z.y.d.fact 35 (f := .glo "BadRecord") rfl)
theorem g_BadLog : mg "BadLog" = some (.ref (He.ga K "BadLog")) := by obtain ⟨h, X, G⟩ := T.h; exact He.glo_ok X G (T.c.z.y.d.fact 36 (f := .glo "BadLog") rfl)
theorem g_BadLeft : mg "BadLeft" = some (.ref (He.ga K "BadLeft")) := by obtain ⟨h, X, G⟩ := T.h; exact He.glo_ok X G (T.c.z.y.d.fact 37 (f := .glo "BadLeft") rfl)
theorem g__law_word : mg "_law_word" = some (.ref (He.ga K "_law_word")) := by obtain ⟨h, X, G⟩ := T.h; exact He.glo_ok X G (T.c.z.y.d.fact 40 (f := .glo "_law_word") rfl)
theorem g__law_caught : mg "_law_caught" = some (.ref (He.ga K "_law_caught")) := by obtain ⟨h, X, G⟩ := T.h; exact He.glo_ok X G (T.c.z.y.d.fact 41 (f := .glo "_law_caught") rfl)
theorem g_KeepError : mg "KeepError" = some (.ref (He.ga K "KeepError")) := by obtain ⟨h, X, G⟩ := T.h; exact He.glo_ok X G (T.c.z.y.d.fact 42 (f := .glo "KeepError") rfl)
theorem g_is_number : mg "is_number" = some (.ref (He.ga K "is_number")) := by obtain ⟨h, X, G⟩ := T.h; exact He.glo_ok X G (T.c.z.y.d.fact 47 (f := .glo "is_number") rfl)
theorem c_MOST_TERM : ∃ t, mg "MOST_TERM" = some (.int 99 t) := by obtain ⟨h, X, G⟩ := T.h; exact He.int_ok X G (T.c.z.y.d.fact 48 (f := .int "MOST_TERM" 99) rfl)
theorem g_is_term : mg "is_term" = some (.ref (He.ga K "is_term")) := by obtain ⟨h, X, G⟩ := T.h; exact He.glo_ok X G (T.c.z.y.d.fact 49 (f := .glo "is_term") rfl)
theorem c_LETTERS : ∃ t, mg "LETTERS" = some (.str "abcdefghijklmnopqrstuvwxyz" t) := by obtain ⟨h, X, G⟩ := T.h; exact He.str_ok X G (T.c.z.y.d.fact 50 (f := .str "LETTERS" "abcdefghijklmnopqrstuvwxyz") rfl)
theorem n_all : mg "all" = none := by obtain ⟨h, X, G⟩ := T.h; exact He.free_ok X G (T.c.z.y.d.fact 51 (f := .free "all") rfl)
theorem g_is_name : mg "is_name" = some (.ref (He.ga K "is_name")) := by obtain ⟨h, X, G⟩ := T.h; exact He.glo_ok X G (T.c.z.y.d.fact 52 (f := .glo "is_name") rfl)
theorem g_is_pair : mg "is_pair" = some (.ref (He.ga K "is_pair")) := by obtain ⟨h, X, G⟩ := T.h; exact He.glo_ok X G (T.c.z.y.d.fact 53 (f := .glo "is_pair") rfl)
theorem g_is_record : mg "is_record" = some (.ref (He.ga K "is_record")) := by obtain ⟨h, X, G⟩ := T.h; exact He.glo_ok X G (T.c.z.y.d.fact 54 (f := .glo "is_record") rfl)
theorem g_fits : mg "fits" = some (.ref (He.ga K "fits")) := by obtain ⟨h, X, G⟩ := T.h; exact He.glo_ok X G (T.c.z.y.d.fact 55 (f := .glo "fits") rfl)
theorem g_are_records : mg "are_records" = some (.ref (He.ga K "are_records")) := by obtain ⟨h, X, G⟩ := T.h; exact He.glo_ok X G (T.c.z.y.d.fact 56 (f := .glo "are_records") rfl)
theorem g_is_log : mg "is_log" = some (.ref (He.ga K "is_log")) := by obtain ⟨h, X, G⟩ := T.h; exact He.glo_ok X G (T.c.z.y.d.fact 57 (f := .glo "is_log") rfl)
theorem g_need_log : mg "need_log" = some (.ref (He.ga K "need_log")) := by obtain ⟨h, X, G⟩ := T.h; exact He.glo_ok X G (T.c.z.y.d.fact 59 (f := .glo "need_log") rfl)
theorem g_written_by : mg "written_by" = some (.ref (He.ga K "written_by")) := by obtain ⟨h, X, G⟩ := T.h; exact He.glo_ok X G (T.c.z.y.d.fact 61 (f := .glo "written_by") rfl)
theorem g_written : mg "written" = some (.ref (He.ga K "written")) := by obtain ⟨h, X, G⟩ := T.h; exact He.glo_ok X G (T.c.z.y.d.fact 62 (f := .glo "written") rfl)
theorem g_leavings : mg "leavings" = some (.ref (He.ga K "leavings")) := by obtain ⟨h, X, G⟩ := T.h; exact He.glo_ok X G (T.c.z.y.d.fact 63 (f := .glo "leavings") rfl)
theorem g_can_leave : mg "can_leave" = some (.ref (He.ga K "can_leave")) := by obtain ⟨h, X, G⟩ := T.h; exact He.glo_ok X G (T.c.z.y.d.fact 64 (f := .glo "can_leave") rfl)
theorem g_fallen : mg "fallen" = some (.ref (He.ga K "fallen")) := by obtain ⟨h, X, G⟩ := T.h; exact He.glo_ok X G (T.c.z.y.d.fact 65 (f := .glo "fallen") rfl)
theorem n_repr : mg "repr" = none := by obtain ⟨h, X, G⟩ := T.h; exact He.free_ok X G (T.c.z.y.d.fact 66 (f := .free "repr") rfl)
theorem n_max : mg "max" = none := by obtain ⟨h, X, G⟩ := T.h; exact He.free_ok X G (T.c.z.y.d.fact 67 (f := .free "max") rfl)
theorem g_read_of : mg "read_of" = some (.ref (He.ga K "read_of")) := by obtain ⟨h, X, G⟩ := T.h; exact He.glo_ok X G (T.c.z.y.d.fact 68 (f := .glo "read_of") rfl)
theorem g_read : mg "read" = some (.ref (He.ga K "read")) := by obtain ⟨h, X, G⟩ := T.h; exact He.glo_ok X G (T.c.z.y.d.fact 69 (f := .glo "read") rfl)
theorem g_may_forget : mg "may_forget" = some (.ref (He.ga K "may_forget")) := by obtain ⟨h, X, G⟩ := T.h; exact He.glo_ok X G (T.c.z.y.d.fact 70 (f := .glo "may_forget") rfl)
theorem g__law_full_right : mg "_law_full_right" = some (.ref (He.ga K "_law_full_right")) := by obtain ⟨h, X, G⟩ := T.h; exact He.glo_ok X G (T.c.z.y.d.fact 71 (f := .glo "_law_full_right") rfl)
theorem g_law : mg "law" = some (.ref (He.ga K "law")) := by obtain ⟨h, X, G⟩ := T.h; exact He.glo_ok X G (T.c.z.y.d.fact 72 (f := .glo "law") rfl)
theorem fld_Hand_own_promise : FldF K mg "Hand" "own_promise" := ⟨_, g_Hand T, cl_Hand T, He.noat_ok (T.c.z.y.d.fact 19 (f := .noat "Hand" "own_promise") rfl)⟩
theorem fld_Hand_own_entry : FldF K mg "Hand" "own_entry" := ⟨_, g_Hand T, cl_Hand T, He.noat_ok (T.c.z.y.d.fact 20 (f := .noat "Hand" "own_entry") rfl)⟩
theorem fld_Hand_own_back : FldF K mg "Hand" "own_back" := ⟨_, g_Hand T, cl_Hand T, He.noat_ok (T.c.z.y.d.fact 21 (f := .noat "Hand" "own_back") rfl)⟩
theorem x_0 : (Fx.tupS "WORDS" ["none", "lazy", "forced"]).ok K = true := T.c.z.y.fact 0 (f := .tupS "WORDS" ["none", "lazy", "forced"]) rfl
theorem x_1 : (Fx.tupS "BACKS" ["at once", "barred"]).ok K = true := T.c.z.y.fact 1 (f := .tupS "BACKS" ["at once", "barred"]) rfl
theorem x_2 : (Fx.kits (.blt "str") [("NoneType", false), ("bool", false), ("int", false), ("str", true), ("tuple", false), ("list", false), ("dict", false)]).ok K = true := T.c.z.y.fact 2 (f := .kits (.blt "str") [("NoneType", false), ("bool", false), ("int", false), ("str", true), ("tuple", false), ("list", false), ("dict", false)]) rfl
theorem x_3 : (Fx.kits (.own "Hand") [("NoneType", false), ("bool", false), ("int", false), ("str", false), ("tuple", false), ("list", false), ("dict", false)]).ok K = true := T.c.z.y.fact 3 (f := .kits (.own "Hand") [("NoneType", false), ("bool", false), ("int", false), ("str", false), ("tuple", false), ("list", false), ("dict", false)]) rfl
theorem x_4 : (Fx.isi "Hand" (.own "Hand") true).ok K = true := T.c.z.y.fact 4 (f := .isi "Hand" (.own "Hand") true) rfl
theorem x_5 : (Fx.kits (.blt "tuple") [("NoneType", false), ("bool", false), ("int", false), ("str", false), ("tuple", true), ("list", false), ("dict", false)]).ok K = true := T.c.z.y.fact 5 (f := .kits (.blt "tuple") [("NoneType", false), ("bool", false), ("int", false), ("str", false), ("tuple", true), ("list", false), ("dict", false)]) rfl
theorem x_6 : (Fx.kits (.blt "int") [("NoneType", false), ("bool", true), ("int", true), ("str", false), ("tuple", false), ("list", false), ("dict", false)]).ok K = true := T.c.z.y.fact 6 (f := .kits (.blt "int") [("NoneType", false), ("bool", true), ("int", true), ("str", false), ("tuple", false), ("list", false), ("dict", false)]) rfl
theorem x_7 : (Fx.kits (.blt "bool") [("NoneType", false), ("bool", true), ("int", false), ("str", false), ("tuple", false), ("list", false), ("dict", false)]).ok K = true := T.c.z.y.fact 7 (f := .kits (.blt "bool") [("NoneType", false), ("bool", true), ("int", false), ("str", false), ("tuple", false), ("list", false), ("dict", false)]) rfl
theorem x_8 : (Fx.kits (.own "BadHand") [("NoneType", false), ("bool", false), ("int", false), ("str", false), ("tuple", false), ("list", false), ("dict", false)]).ok K = true := T.c.z.y.fact 8 (f := .kits (.own "BadHand") [("NoneType", false), ("bool", false), ("int", false), ("str", false), ("tuple", false), ("list", false), ("dict", false)]) rfl
theorem x_9 : (Fx.xis "BadRecord" (.own "BadHand") false).ok K = true := T.c.z.y.fact 9 (f := .xis "BadRecord" (.own "BadHand") false) rfl
theorem x_10 : (Fx.xcl "BadRecord").ok K = true := T.c.z.y.fact 10 (f := .xcl "BadRecord") rfl
theorem x_11 : (Fx.xis "BadLog" (.own "BadHand") false).ok K = true := T.c.z.y.fact 11 (f := .xis "BadLog" (.own "BadHand") false) rfl
theorem x_12 : (Fx.xcl "BadLog").ok K = true := T.c.z.y.fact 12 (f := .xcl "BadLog") rfl
theorem x_13 : (Fx.xis "BadLeft" (.own "BadHand") false).ok K = true := T.c.z.y.fact 13 (f := .xis "BadLeft" (.own "BadHand") false) rfl
theorem x_14 : (Fx.xcl "BadLeft").ok K = true := T.c.z.y.fact 14 (f := .xcl "BadLeft") rfl
theorem x_15 : (Fx.xis "BadHand" (.own "BadHand") true).ok K = true := T.c.z.y.fact 15 (f := .xis "BadHand" (.own "BadHand") true) rfl
theorem x_16 : (Fx.xcl "BadHand").ok K = true := T.c.z.y.fact 16 (f := .xcl "BadHand") rfl
theorem x_17 : (Fx.kits (.own "BadLeft") [("NoneType", false), ("bool", false), ("int", false), ("str", false), ("tuple", false), ("list", false), ("dict", false)]).ok K = true := T.c.z.y.fact 17 (f := .kits (.own "BadLeft") [("NoneType", false), ("bool", false), ("int", false), ("str", false), ("tuple", false), ("list", false), ("dict", false)]) rfl
theorem x_18 : (Fx.xis "BadRecord" (.own "BadLeft") false).ok K = true := T.c.z.y.fact 18 (f := .xis "BadRecord" (.own "BadLeft") false) rfl
theorem x_19 : (Fx.xis "BadLog" (.own "BadLeft") false).ok K = true := T.c.z.y.fact 19 (f := .xis "BadLog" (.own "BadLeft") false) rfl
theorem x_20 : (Fx.xis "BadLeft" (.own "BadLeft") true).ok K = true := T.c.z.y.fact 20 (f := .xis "BadLeft" (.own "BadLeft") true) rfl
theorem x_21 : (Fx.xis "BadHand" (.own "BadLeft") false).ok K = true := T.c.z.y.fact 21 (f := .xis "BadHand" (.own "BadLeft") false) rfl
theorem x_22 : (Fx.kits (.own "BadLog") [("NoneType", false), ("bool", false), ("int", false), ("str", false), ("tuple", false), ("list", false), ("dict", false)]).ok K = true := T.c.z.y.fact 22 (f := .kits (.own "BadLog") [("NoneType", false), ("bool", false), ("int", false), ("str", false), ("tuple", false), ("list", false), ("dict", false)]) rfl
theorem x_23 : (Fx.xis "BadRecord" (.own "BadLog") false).ok K = true := T.c.z.y.fact 23 (f := .xis "BadRecord" (.own "BadLog") false) rfl
theorem x_24 : (Fx.xis "BadLog" (.own "BadLog") true).ok K = true := T.c.z.y.fact 24 (f := .xis "BadLog" (.own "BadLog") true) rfl
theorem x_25 : (Fx.xis "BadLeft" (.own "BadLog") false).ok K = true := T.c.z.y.fact 25 (f := .xis "BadLeft" (.own "BadLog") false) rfl
theorem x_26 : (Fx.xis "BadHand" (.own "BadLog") false).ok K = true := T.c.z.y.fact 26 (f := .xis "BadHand" (.own "BadLog") false) rfl
theorem x_27 : (Fx.kits (.own "BadRecord") [("NoneType", false), ("bool", false), ("int", false), ("str", false), ("tuple", false), ("list", false), ("dict", false)]).ok K = true := T.c.z.y.fact 27 (f := .kits (.own "BadRecord") [("NoneType", false), ("bool", false), ("int", false), ("str", false), ("tuple", false), ("list", false), ("dict", false)]) rfl
theorem x_28 : (Fx.xis "BadRecord" (.own "BadRecord") true).ok K = true := T.c.z.y.fact 28 (f := .xis "BadRecord" (.own "BadRecord") true) rfl
theorem x_29 : (Fx.xis "BadLog" (.own "BadRecord") false).ok K = true := T.c.z.y.fact 29 (f := .xis "BadLog" (.own "BadRecord") false) rfl
theorem x_30 : (Fx.xis "BadLeft" (.own "BadRecord") false).ok K = true := T.c.z.y.fact 30 (f := .xis "BadLeft" (.own "BadRecord") false) rfl
theorem x_31 : (Fx.xis "BadHand" (.own "BadRecord") false).ok K = true := T.c.z.y.fact 31 (f := .xis "BadHand" (.own "BadRecord") false) rfl
theorem x0_BadLog : Exc0 K mg "BadLog" := exc0_ok (g_BadLog T) (T.c.z.y.d.fact 58 (f := .exc "BadLog") rfl)
theorem x0_BadRecord : Exc0 K mg "BadRecord" := exc0_ok (g_BadRecord T) (T.c.z.y.d.fact 60 (f := .exc "BadRecord") rfl)
theorem x1_BadHand : Exc1 P K mg "BadHand" "part" := T.c.exc1 0 (d := xd_BadHand) (g_BadHand T) xt_BadHand
theorem x1_BadLeft : Exc1 P K mg "BadLeft" "left" := T.c.exc1 1 (d := xd_BadLeft) (g_BadLeft T) xt_BadLeft
theorem fd_law_caught : ∃ fd, FunD K "_law_caught" "_law_caught" (defArgs s_law_caught) (defBody s_law_caught) (defScope s_law_caught) [] [] (He.ga K "_law_caught") fd := T.c.z.y.d.def_ 36 (d := d_law_caught) rfl
theorem ca_law : CaughtF K mg "_law_caught" "_law_job" "KeepError" := by
  obtain ⟨fd, F⟩ := fd_law_caught T
  obtain ⟨j, q1, q2, q3, p1, p2, p3, p4, p5, p6, p7, p8, p9, r1, r2, e⟩ := cb_law_caught
  have b : Binds K fd ["_law_job"] [] := F.bindsN fun _ _ _ _ _ _ us hl => match us, hl with | [_], _ => by kernel_rfl
  rw [e] at F
  exact ⟨fd, _, _, "_law_caught_here", "_law_error", j, q1, q2, q3, p1, p2, p3, p4, p5, p6, p7, p8, p9, r1, r2, F, b, sc_law_caught, Or.inl rfl, g__law_caught T, g_KeepError T, rfl, by decide +kernel, sc_law_caught.nd, rfl, rfl, by decide +kernel, by decide +kernel, by decide +kernel, by decide +kernel⟩
theorem kx_law : ∀ z ∈ (["BadHand", "BadLeft", "BadLog", "BadRecord"] : List Str), mg z = some (.ref (He.ga K z)) ∧ PySem.W.exmOne K (.ref (He.ga K z)) (.ref (He.ga K "KeepError")) = some true := by
  intro z hz
  simp only [List.mem_cons, List.not_mem_nil, or_false] at hz
  rcases hz with rfl | rfl | rfl | rfl
  · exact ⟨g_BadHand T, of_decide_eq_true (T.c.z.y.d.fact 43 (f := .exm "BadHand" "KeepError" true) rfl)⟩
  · exact ⟨g_BadLeft T, of_decide_eq_true (T.c.z.y.d.fact 44 (f := .exm "BadLeft" "KeepError" true) rfl)⟩
  · exact ⟨g_BadLog T, of_decide_eq_true (T.c.z.y.d.fact 45 (f := .exm "BadLog" "KeepError" true) rfl)⟩
  · exact ⟨g_BadRecord T, of_decide_eq_true (T.c.z.y.d.fact 46 (f := .exm "BadRecord" "KeepError" true) rfl)⟩
theorem fd_law_begun : ∃ fd, FunD K "_law_begun" "_law_begun" (defArgs s_law_begun) (defBody s_law_begun) (defScope s_law_begun) [] [] (He.ga K "_law_begun") fd := T.c.z.y.d.def_ 35 (d := d_law_begun) rfl
omit T in
theorem ok_begun0 {f : Addr} {fd : FuncData} (F : FunD K "_law_begun" "_law_begun" (defArgs s_law_begun) (defBody s_law_begun) (defScope s_law_begun) [] [] f fd) (nabs : mg "abs" = none) (nint : mg "int" = none) : FnOk P w K mg base L2.CX0 1 f fd ["_law_script"] (spB K) := by
  refine F.ok sc_law_begun (fun vs H Q E h => ?_) (fun cdv A outer s H vs Q E hr h => ⟨_, PSs.nox (pss_cons (ps_setLc (i := 1) (own := [("_law_grain", 2)]) (g := gName 2) (by rfl) sc_law_begun.nd rfl rfl (sw_true rfl rfl rfl (by decide +kernel)) (pi_list (pv 0)) (blkOk_by (N := N_law_begun) (sc := defScope s_law_begun) (by decide +kernel))
      (fun _ _ _ _ _ => pg_name (i := 2) sc_law_begun.nd rfl (Or.inl rfl))
      (fun _ _ _ _ _ => pts_one (pt_cmpR op_ge (pe_callB call_abs rfl nabs bb_abs (pa_cons (pv 2) pa_nil)) (pe_op op_pow pe_int pe_int) (nomark _)))
      (fun _ _ _ _ _ => pe_op op_sub (pe_callB call_abs rfl nabs bb_abs (pa_cons (pv 2) pa_nil)) (pe_op op_pow pe_int pe_int)))
    (pss_one (ps_ret (pe_disp (pps_cons pe_str (pv 1) (pps_cons pe_str (pe_lc (own := [("_law_grain", 2)]) (g := gName 2) (tt := tYes) rfl sc_law_begun.nd (pi_list (pv 0)) (blkOk_by (N := N_law_begun) (sc := defScope s_law_begun) (by decide +kernel))
      (fun _ _ _ _ _ => pg_name (i := 2) sc_law_begun.nd rfl (Or.inl rfl)) (fun _ _ _ _ _ => pts_nil)
      (fun _ _ _ _ _ => pe_op op_mod (pe_callTy call_int1 rfl nint bb_int (pa_cons (pe_callB call_abs rfl nabs bb_abs (pa_cons (pv 2) pa_nil)) pa_nil)) pe_int))
      (pps_cons pe_str pe_int (pps_cons pe_str pe_int pps_nil)))) (by rfl) (by rfl) (fun z => by cases z) (by decide))))), ?_⟩)
  · obtain ⟨a, ns, rfl, _⟩ := h
    rfl
  · obtain ⟨a, ns, rfl, hS, hl, hQ⟩ := h
    refine ⟨_, rfl, a, rfl, ⟨_, hS⟩, fun D hD => ?_⟩
    refine lc_ints (K := K) (ns := ns) (fun g => decide (10 ^ 18 ≤ absI g)) (fun g => absI g - 10 ^ 18) walk_list hS hD hl ?_ ?_
    · intro n H' P' acc hacc hlt h1 h2
      refine ⟨rfl, ⟨_, rfl, n, rfl, 10, 18, rfl, rfl, ⟨by decide, by decide, by decide⟩, _, _, rfl, rfl, _, rfl, ?_⟩⟩
      by_cases c : (10 : Int) ^ Int.toNat 18 ≤ (if n < 0 then -n else n)
      · rw [decide_eq_true c]
        exact iteT ⟨_, rfl, n, rfl, 10, 18, rfl, rfl, ⟨by decide, by decide, by decide⟩, _, _, rfl, rfl, acc, hacc, hlt, h1 (decide_eq_true c)⟩
      · rw [decide_eq_false c]
        exact iteF (h2 (decide_eq_false c))
    · intro p hp
      have hpD : p ≠ D := fun z => by rw [z, upd_same] at hp; cases hp
      have hpH : H p = none := by rw [upd_ne hpD] at hp; exact hp
      have hS2 : SqL K (upd (upd H D (.lst ((wideOf ns).map V.int))) p (.dK [])) a (ns.map V.int) := L2.Same.seq (fun b o e => by rw [upd_ne (ne_of_none e hpH), upd_ne (ne_of_none e hD)]; exact e) hS
      refine ⟨_, rfl, _, rfl, a, rfl, ⟨_, hS2⟩, fun D2 hD2 => ?_⟩
      refine lc_ints (K := K) (ns := ns) (fun _ => true) (fun g => absI g % 2147483629) walk_list hS2 hD2 hl ?_ ?_
      · intro n H' P' acc hacc hlt h1 h2
        exact ⟨rfl, _, rfl, n, rfl, .inl ⟨_, rfl, _, _, rfl, rfl, (by decide : (0:Int) < 2147483629), acc, hacc, hlt, h1 rfl⟩⟩
      · have hD2p : D2 ≠ p := fun z => by rw [z, upd_same] at hD2; cases hD2
        have hD2D : D2 ≠ D := fun z => by rw [z, upd_ne hpD.symm, upd_same] at hD2; cases hD2
        have hD2H : H D2 = none := by rw [upd_ne hD2p, upd_ne hD2D] at hD2; exact hD2
        refine ⟨by rw [upd_ne hD2p.symm, upd_same], [(Sum.inr "wide", .ref D), (Sum.inr "cells", .ref D2), (Sum.inr "rest", .int 0), (Sum.inr "turn", .int 0)], rfl, (by decide : (4:Nat) ≤ 15), ?_⟩
        refine hQ ⟨p, D, D2, p, p, []⟩ _ ⟨fun b o e => ?_, fun b e => ?_, fun b o e => ?_, hpH, hD, hD2H, ?_, ?_, ?_, hD2D.symm⟩
        · rw [upd_ne (ne_of_none e hpH), upd_ne (ne_of_none e hD2H), upd_ne (ne_of_none e hpH), upd_ne (ne_of_none e hD)]; exact e
        · have h1 : b ≠ p := fun z => by rw [z, upd_same] at e; cases e
          rw [upd_ne h1] at e
          have h2 : b ≠ D2 := fun z => by rw [z, upd_same] at e; cases e
          rw [upd_ne h2, upd_ne h1] at e
          have h3 : b ≠ D := fun z => by rw [z, upd_same] at e; cases e
          rw [upd_ne h3] at e
          exact e
        · by_cases h1 : b = p
          · subst h1
            rw [upd_same] at e
            cases e
            exact .inr ⟨fun _ z => (by cases z), fun _ _ z => (by unfold LamX.CodeO at z; cases z)⟩
          rw [upd_ne h1] at e
          by_cases h2 : b = D2
          · subst h2
            rw [upd_same] at e
            cases e
            exact .inr ⟨fun _ z => (by cases z), fun _ _ z => (by unfold LamX.CodeO at z; cases z)⟩
          rw [upd_ne h2, upd_ne h1] at e
          by_cases h3 : b = D
          · subst h3
            rw [upd_same] at e
            cases e
            exact .inr ⟨fun _ z => (by cases z), fun _ _ z => (by unfold LamX.CodeO at z; cases z)⟩
          rw [upd_ne h3] at e
          exact .inl e
        · show upd _ p _ p = _
          rw [upd_same]; rfl
        · show upd _ p _ D = _
          rw [upd_ne hpD.symm, upd_ne hD2D.symm, upd_ne hpD.symm, upd_same]; rfl
        · show upd _ p _ D2 = _
          rw [upd_ne hD2p, upd_same]
          rw [List.filter_eq_self.mpr fun _ _ => rfl]
          rfl
theorem ok_begun {f : Addr} {fd : FuncData} (F : FunD K "_law_begun" "_law_begun" (defArgs s_law_begun) (defBody s_law_begun) (defScope s_law_begun) [] [] f fd) : FnOk P w K mg base L2.CX0 1 f fd ["_law_script"] (spB K) := ok_begun0 F (n_abs T) (n_int T)
theorem fd_law_mixed : ∃ fd, FunD K "_law_mixed" "_law_mixed" (defArgs s_law_mixed) (defBody s_law_mixed) (defScope s_law_mixed) [] [] (He.ga K "_law_mixed") fd := T.c.z.y.d.def_ 0 (d := d_law_mixed) rfl
theorem f_law_mixed : DFn P w K mg base "_law_mixed" 1 1 m_law_mixed := by
  obtain ⟨fd, F⟩ := fd_law_mixed T
  refine def_of (g__law_mixed T) F.kp rfl (F.bindsN (ps := ["_law_draw"]) fun _ _ _ _ _ _ us hl => match us, hl with | [_], _ => by kernel_rfl) ?_
  have R := @dfn_of P w K mg base _ _ s_law_mixed _ fd N_law_mixed _ 0 _ b_law_mixed _ _ F sc_law_mixed rfl (fun cdv A outer s H E dl hr tk hp => by
    exact (dss_cons (ds_par 1 2 rfl sc_law_mixed.nd (des_fz (de_bin od_add (de_turn 0 (hu64 hr)) de_int)) (des_fz de_int)) (dss_cons (ds_turn 0 (hu64 hr) (de_var 1)) (dss_cons (ds_for hp rfl (di_seq (de_lst (da_cons de_int (da_cons de_int (da_cons de_int (da_cons de_int da_nil)))))) (dg_name 3 sc_law_mixed.nd) (dss_cons (ds_set 4 sc_law_mixed.nd (de_bin od_add (de_bin od_mul de_int (de_var 1)) (de_bin od_fdiv (de_var 3) de_int))) (dss_cons (ds_forC 0 (hu64 hr) hp rfl (dg_name 5 sc_law_mixed.nd) (dss_one (ds_set 4 sc_law_mixed.nd (de_bin od_mod (de_callTy cd_int rfl (n_int T) bb_int (da_cons (de_bin od_add (de_bin od_add (de_bin od_mul (de_var 4) de_int) (de_var 5)) (de_var 1)) da_nil)) (de_var 3)))) (still_asg fun G => by repeat (first | exact stl_gv | exact stl_ret | exact stl_sa0 | apply stl_g2 | apply stl_gC | apply stl_saC))) (dss_one (ds_set 2 sc_law_mixed.nd (de_bin od_add (de_bin od_mul (de_var 2) de_int) (de_bin od_mod (de_callTy cd_int rfl (n_int T) bb_int (da_cons (de_bin od_pow (de_var 4) de_int) da_nil)) (de_var 3)))))))) (dss_one (ds_ret (de_var 2)))))))
  exact R
theorem fd_law_take : ∃ fd, FunD K "_law_take" "_law_take" (defArgs s_law_take) (defBody s_law_take) (defScope s_law_take) [] [] (He.ga K "_law_take") fd := T.c.z.y.d.def_ 1 (d := d_law_take) rfl
theorem f_law_take : DFn P w K mg base "_law_take" 2 2 m_law_take := by
  obtain ⟨fd, F⟩ := fd_law_take T
  refine def_of (g__law_take T) F.kp rfl (F.bindsN (ps := ["_law_draw", "_law_size"]) fun _ _ _ _ _ _ us hl => match us, hl with | [_, _], _ => by kernel_rfl) ?_
  have R := @dfn_of P w K mg base _ _ s_law_take _ fd N_law_take _ 1 _ b_law_take _ _ F sc_law_take rfl (fun cdv A outer s H E dl hr tk hp => by
    exact (dss_cons (ds_if (dt_cmp (od_eq (hu64 hr)) (de_rest 0 (hu64 hr)) de_int (by rfl)) (dss_one (ds_rest 0 (hu64 hr) (de_ifExp (dt_wide 0 (hu64 hr)) (de_popW 0 (hu64 hr)) (de_call (f_law_mixed T) (hr.mono (by decide)) tk (da_cons (de_var 0) da_nil))))) dss_nil) (dss_cons (ds_set 2 sc_law_take.nd (de_bin od_mod (de_callTy cd_int rfl (n_int T) bb_int (da_cons (de_rest 0 (hu64 hr)) da_nil)) (de_var 1))) (dss_cons (ds_rest 0 (hu64 hr) (de_bin od_fdiv (de_rest 0 (hu64 hr)) (de_var 1))) (dss_one (ds_ret (de_var 2)))))))
  exact R
theorem fd_law_pick : ∃ fd, FunD K "_law_pick" "_law_pick" (defArgs s_law_pick) (defBody s_law_pick) (defScope s_law_pick) [] [] (He.ga K "_law_pick") fd := T.c.z.y.d.def_ 2 (d := d_law_pick) rfl
theorem f_law_pick : DFn P w K mg base "_law_pick" 3 2 m_law_pick := by
  obtain ⟨fd, F⟩ := fd_law_pick T
  refine def_of (g__law_pick T) F.kp rfl (F.bindsN (ps := ["_law_draw", "_law_some"]) fun _ _ _ _ _ _ us hl => match us, hl with | [_, _], _ => by kernel_rfl) ?_
  have R := @dfn_of P w K mg base _ _ s_law_pick _ fd N_law_pick _ 2 _ b_law_pick _ _ F sc_law_pick rfl (fun cdv A outer s H E dl hr tk hp => by
    exact (dss_one (ds_ret (de_sub (de_var 1) (de_call (f_law_take T) (hr.mono (by decide)) tk (da_cons (de_var 0) (da_cons (de_callB cd_len rfl (n_len T) bb_len (da_cons (de_var 1) da_nil)) da_nil)))))))
  exact R
theorem fd_law_word_pair : ∃ fd, FunD K "_law_word_pair" "_law_word_pair" (defArgs s_law_word_pair) (defBody s_law_word_pair) (defScope s_law_word_pair) [] [] (He.ga K "_law_word_pair") fd := T.c.z.y.d.def_ 3 (d := d_law_word_pair) rfl
theorem f_law_word_pair : DFn P w K mg base "_law_word_pair" 4 1 m_law_word_pair := by
  obtain ⟨fd, F⟩ := fd_law_word_pair T
  refine def_of (g__law_word_pair T) F.kp rfl (F.bindsN (ps := ["_law_draw"]) fun _ _ _ _ _ _ us hl => match us, hl with | [_], _ => by kernel_rfl) ?_
  have R := @dfn_of P w K mg base _ _ s_law_word_pair _ fd N_law_word_pair _ 3 _ b_law_word_pair _ _ F sc_law_word_pair rfl (fun cdv A outer s H E dl hr tk hp => by
    exact (dss_cons (ds_if (dt_cmp (od_eq (hu64 hr)) (de_call (f_law_take T) (hr.mono (by decide)) tk (da_cons (de_var 0) (da_cons de_int da_nil))) de_int (by rfl)) (dss_one (ds_ret (de_tup (da_cons de_str (da_cons de_str (da_cons de_str da_nil)))))) dss_nil) (dss_cons (ds_set 1 sc_law_word_pair.nd (de_lst (da_cons de_str (da_cons de_str (da_cons de_str (da_cons de_str da_nil)))))) (dss_one (ds_ret (de_tup (da_cons (de_call (f_law_pick T) (hr.mono (by decide)) tk (da_cons (de_var 0) (da_cons (de_var 1) da_nil))) (da_cons (de_call (f_law_pick T) (hr.mono (by decide)) tk (da_cons (de_var 0) (da_cons (de_var 1) da_nil))) (da_cons (de_call (f_law_pick T) (hr.mono (by decide)) tk (da_cons (de_var 0) (da_cons (de_bin od_add (de_bin od_mul (de_lst (da_cons de_str da_nil)) de_int) (de_lst (da_cons de_str da_nil))) da_nil))) da_nil)))))))))
  exact R
theorem fd_law_noted : ∃ fd, FunD K "_law_noted" "_law_noted" (defArgs s_law_noted) (defBody s_law_noted) (defScope s_law_noted) [] [] (He.ga K "_law_noted") fd := T.c.z.y.d.def_ 4 (d := d_law_noted) rfl
theorem f_law_noted : DFn P w K mg base "_law_noted" 1 3 m_law_noted := by
  obtain ⟨fd, F⟩ := fd_law_noted T
  refine def_of (g__law_noted T) F.kp rfl (F.bindsN (ps := ["_law_words", "_law_tape", "_law_note"]) fun _ _ _ _ _ _ us hl => match us, hl with | [_, _, _], _ => by kernel_rfl) ?_
  have R := @dfn_of P w K mg base _ _ s_law_noted _ fd N_law_noted _ 0 _ b_law_noted _ _ F sc_law_noted rfl (fun cdv A outer s H E dl hr tk hp => by
    exact (dss_cons (ds_asg (de_var 1) (dg_tup (n := 2) rfl (lenK (lenK lenN)) (dgs_cons (dg_name 3 sc_law_noted.nd) (dgs_cons (dg_name 4 sc_law_noted.nd) dgs_nil)))) (dss_cons (ds_set 5 sc_law_noted.nd (de_ifExp (dt_cmp (od_eq (hu64 hr)) (de_sub (de_var 2) de_int) de_str (by rfl)) (de_sub (de_var 0) de_int) (de_sub (de_var 0) de_int))) (dss_cons (ds_if (dt_w (dw_or (dt_cmp (od_eq (hu64 hr)) (de_var 5) de_str (by rfl)) (dw_or1 (dt_cmp (od_inX (hu65 hr)) (de_var 2) (de_var 3) (by rfl))))) (dss_one (ds_ret (de_var 1))) dss_nil) (dss_one (ds_ret (de_tup (da_cons (de_bin od_add (de_var 3) (de_tup (da_cons (de_var 2) da_nil))) (da_cons (de_ifExp (dt_cmp (od_eq (hu64 hr)) (de_var 5) de_str (by rfl)) (de_bin od_add (de_callB cd_len rfl (n_len T) bb_len (da_cons (de_var 3) da_nil)) de_int) (de_var 4)) da_nil)))))))))
  exact R
theorem fd_is_of : ∃ fd, FunD K "is_of" "is_of" (defArgs s_is_of) (defBody s_is_of) (defScope s_is_of) [] [] (He.ga K "is_of") fd := T.c.z.y.d.def_ 5 (d := d_is_of) rfl
theorem f_is_of : DFn P w K mg base "is_of" 1 2 m_is_of := by
  obtain ⟨fd, F⟩ := fd_is_of T
  refine def_of (g_is_of T) F.kp rfl (F.bindsN (ps := ["thing", "words"]) fun _ _ _ _ _ _ us hl => match us, hl with | [_, _], _ => by kernel_rfl) ?_
  have R := @dfn_of P w K mg base _ _ s_is_of _ fd N_is_of _ 0 _ b_is_of _ _ F sc_is_of rfl (fun cdv A outer s H E dl hr tk hp => by
    exact (dss_one (ds_ret (de_and (de_isi rfl (n_isinstance T) (pe_bltn (v := .ty "str") rfl (n_str T) bb_str rfl) (.ty _) no_cls (kits_ok (x_2 T)) (de_var 0)) (de_one (de_cmp od_in (de_var 0) (de_var 1) (by rfl)))))))
  exact R
theorem fd_Hand___init__ : ∃ fd, FunD K "__init__" "Hand.__init__" (defArgs s_Hand___init__) (defBody s_Hand___init__) (defScope s_Hand___init__) [V.str "at once"] [] (He.ma K (He.ga K "Hand") "__init__") fd := T.c.z.y.d.def_ 6 (d := d_Hand___init__) rfl
theorem f_Hand___init__ : MkF P w K mg base "Hand" 2 3 m_Hand___init__ := by
  obtain ⟨fd, F⟩ := fd_Hand___init__ T
  refine make_of (g_Hand T) (mk_Hand T) rfl (bind0 (F.binds1 (ps := ["self", "promise", "entry", "back"]) 4 1 (by simp) rfl fun _ _ _ _ _ _ _ us its h1 h2 => match us, its, h1, h2 with | [_, _, _, _], [_], _, _ => ⟨_, rfl, rfl⟩)) ?_
  have R := @ifn_of P w K mg base _ _ "Hand" s_Hand___init__ _ fd N_Hand___init__ _ 1 _ b_Hand___init__ _ _ F sc_Hand___init__ rfl (fun cdv A outer s H E dl hr tk hp => by
    exact (dss_cons (ds_for hp rfl (di_seq (de_lst (da_cons (de_tup (da_cons de_str (da_cons (de_var 1) (da_cons (de_tupS rfl (tupC_ok (g_WORDS T) (x_0 T))) da_nil)))) (da_cons (de_tup (da_cons de_str (da_cons (de_var 2) (da_cons (de_tupS rfl (tupC_ok (g_WORDS T) (x_0 T))) da_nil)))) (da_cons (de_tup (da_cons de_str (da_cons (de_var 3) (da_cons (de_tupS rfl (tupC_ok (g_BACKS T) (x_1 T))) da_nil)))) da_nil))))) (dg_tup (n := 3) rfl (lenK (lenK (lenK lenN))) (dgs_cons (dg_name 4 sc_Hand___init__.nd) (dgs_cons (dg_name 5 sc_Hand___init__.nd) (dgs_cons (dg_name 6 sc_Hand___init__.nd) dgs_nil)))) (dss_one (ds_if (dt_not (dt_val (de_call (f_is_of T) (hr.mono (by decide)) tk (da_cons (de_var 5) (da_cons (de_var 6) da_nil))))) (dss_one (ds_raise1 (k := 0) (x1_BadHand T) rfl (hr.mono (by decide)) tk (de_var 4))) dss_nil))) (dss_cons (ds_fldC (fld_Hand_own_promise T) (de_var 1)) (dss_cons (ds_fldC (fld_Hand_own_entry T) (de_var 2)) (dss_one (ds_fldC (fld_Hand_own_back T) (de_var 3)))))))
  exact R
theorem fD2_Hand___init__ : MkFD P w K mg base "Hand" 2 3 m_Hand___init__ [.str "at once"] := by
  obtain ⟨fd, F⟩ := fd_Hand___init__ T
  refine makeD_of (dvs := [V.str "at once"]) (g_Hand T) (mk_Hand T) rfl (F.binds1 (ps := ["self", "promise", "entry", "back"]) 3 0 (by simp) rfl fun _ _ _ _ _ _ _ us its h1 h2 => match us, its, h1, h2 with | [_, _, _], [_], _, _ => ⟨_, rfl, rfl⟩) (fun _ _ => ⟨_, _, rfl, rfl, rfl⟩) ?_
  have R := @ifn_of P w K mg base _ _ "Hand" s_Hand___init__ _ fd N_Hand___init__ _ 1 _ b_Hand___init__ _ _ F sc_Hand___init__ rfl (fun cdv A outer s H E dl hr tk hp => by
    exact (dss_cons (ds_for hp rfl (di_seq (de_lst (da_cons (de_tup (da_cons de_str (da_cons (de_var 1) (da_cons (de_tupS rfl (tupC_ok (g_WORDS T) (x_0 T))) da_nil)))) (da_cons (de_tup (da_cons de_str (da_cons (de_var 2) (da_cons (de_tupS rfl (tupC_ok (g_WORDS T) (x_0 T))) da_nil)))) (da_cons (de_tup (da_cons de_str (da_cons (de_var 3) (da_cons (de_tupS rfl (tupC_ok (g_BACKS T) (x_1 T))) da_nil)))) da_nil))))) (dg_tup (n := 3) rfl (lenK (lenK (lenK lenN))) (dgs_cons (dg_name 4 sc_Hand___init__.nd) (dgs_cons (dg_name 5 sc_Hand___init__.nd) (dgs_cons (dg_name 6 sc_Hand___init__.nd) dgs_nil)))) (dss_one (ds_if (dt_not (dt_val (de_call (f_is_of T) (hr.mono (by decide)) tk (da_cons (de_var 5) (da_cons (de_var 6) da_nil))))) (dss_one (ds_raise1 (k := 0) (x1_BadHand T) rfl (hr.mono (by decide)) tk (de_var 4))) dss_nil))) (dss_cons (ds_fldC (fld_Hand_own_promise T) (de_var 1)) (dss_cons (ds_fldC (fld_Hand_own_entry T) (de_var 2)) (dss_one (ds_fldC (fld_Hand_own_back T) (de_var 3)))))))
  exact R
theorem fd_law_bent_note : ∃ fd, FunD K "_law_bent_note" "_law_bent_note" (defArgs s_law_bent_note) (defBody s_law_bent_note) (defScope s_law_bent_note) [] [] (He.ga K "_law_bent_note") fd := T.c.z.y.d.def_ 7 (d := d_law_bent_note) rfl
theorem f_law_bent_note : DFn P w K mg base "_law_bent_note" 4 2 m_law_bent_note := by
  obtain ⟨fd, F⟩ := fd_law_bent_note T
  refine def_of (g__law_bent_note T) F.kp rfl (F.bindsN (ps := ["_law_draw", "_law_note"]) fun _ _ _ _ _ _ us hl => match us, hl with | [_, _], _ => by kernel_rfl) ?_
  have R := @dfn_of P w K mg base _ _ s_law_bent_note _ fd N_law_bent_note _ 3 _ b_law_bent_note _ _ F sc_law_bent_note rfl (fun cdv A outer s H E dl hr tk hp => by
    exact (dss_cons (ds_set 2 sc_law_bent_note.nd (de_lst (da_cons de_non (da_cons (de_tup da_nil) (da_cons (de_callTy cd_list rfl (n_list T) bb_list (da_cons (de_var 1) da_nil)) (da_cons (de_bin od_add (de_var 1) (de_tup (da_cons de_int da_nil))) (da_cons (de_slice (de_var 1) do_none (do_some de_int)) (da_cons (de_tup (da_cons de_str (da_cons de_int da_nil))) (da_cons (de_tup (da_cons de_str (da_cons de_int da_nil))) (da_cons (de_tup (da_cons de_str (da_cons de_int da_nil))) (da_cons (de_tup (da_cons de_str (da_cons de_bl da_nil))) da_nil))))))))))) (dss_cons (ds_set 2 sc_law_bent_note.nd (de_bin od_add (de_var 2) (de_lst (da_cons (de_tup (da_cons de_str (da_cons de_int da_nil))) (da_cons (de_tup (da_cons de_str (da_cons de_int (da_cons de_str da_nil)))) (da_cons (de_tup (da_cons de_str (da_cons de_int (da_cons de_str da_nil)))) (da_cons (de_tup (da_cons de_str (da_cons de_int (da_cons de_str da_nil)))) (da_cons (de_tup (da_cons de_str (da_cons de_int (da_cons de_str da_nil)))) (da_cons (de_tup (da_cons de_str (da_cons de_int (da_cons de_int da_nil)))) (da_cons (de_tup (da_cons de_str (da_cons de_str (da_cons de_str da_nil)))) (da_cons de_int (da_cons de_str (da_cons (de_var 1) da_nil))))))))))))) (dss_one (ds_ret (de_call (f_law_pick T) (hr.mono (by decide)) tk (da_cons (de_var 0) (da_cons (de_bin od_add (de_var 2) (de_lst (da_cons (de_tup (da_cons de_str (da_cons de_int da_nil))) (da_cons (de_tup (da_cons de_str (da_cons de_int (da_cons de_str da_nil)))) (da_cons (de_tup (da_cons de_str (da_cons de_int (da_cons de_str da_nil)))) da_nil))))) da_nil))))))))
  exact R
theorem fd_law_bent : ∃ fd, FunD K "_law_bent" "_law_bent" (defArgs s_law_bent) (defBody s_law_bent) (defScope s_law_bent) [] [] (He.ga K "_law_bent") fd := T.c.z.y.d.def_ 8 (d := d_law_bent) rfl
theorem f_law_bent : DFn P w K mg base "_law_bent" 5 2 m_law_bent := by
  obtain ⟨fd, F⟩ := fd_law_bent T
  refine def_of (g__law_bent T) F.kp rfl (F.bindsN (ps := ["_law_draw", "_law_tape"]) fun _ _ _ _ _ _ us hl => match us, hl with | [_, _], _ => by kernel_rfl) ?_
  have R := @dfn_of P w K mg base _ _ s_law_bent _ fd N_law_bent _ 4 _ b_law_bent _ _ F sc_law_bent rfl (fun cdv A outer s H E dl hr tk hp => by
    exact (dss_cons (ds_asg (de_var 1) (dg_tup (n := 2) rfl (lenK (lenK lenN)) (dgs_cons (dg_name 2 sc_law_bent.nd) (dgs_cons (dg_name 3 sc_law_bent.nd) dgs_nil)))) (dss_cons (ds_if (dt_w (dw_or (dt_cmp (od_eq (hu64 hr)) (de_var 2) (de_tup da_nil) (by rfl)) (dw_or1 (dt_cmp (od_eq (hu64 hr)) (de_call (f_law_take T) (hr.mono (by decide)) tk (da_cons (de_var 0) (da_cons de_int da_nil))) de_int (by rfl))))) (dss_cons (ds_set 4 sc_law_bent.nd (de_lst (da_cons de_non (da_cons (de_tup da_nil) (da_cons (de_var 2) (da_cons (de_lst (da_cons (de_var 2) (da_cons (de_var 3) da_nil))) (da_cons (de_tup (da_cons (de_callTy cd_list rfl (n_list T) bb_list (da_cons (de_var 2) da_nil)) (da_cons (de_var 3) da_nil))) (da_cons (de_tup (da_cons (de_var 2) (da_cons (de_var 3) (da_cons de_int da_nil)))) (da_cons (de_tup (da_cons (de_var 2) (da_cons (de_un ud_neg de_int) da_nil))) (da_cons (de_tup (da_cons (de_var 2) (da_cons (de_bin od_add (de_callB cd_len rfl (n_len T) bb_len (da_cons (de_var 2) da_nil)) de_int) da_nil))) da_nil)))))))))) (dss_one (ds_ret (de_call (f_law_pick T) (hr.mono (by decide)) tk (da_cons (de_var 0) (da_cons (de_bin od_add (de_var 4) (de_lst (da_cons (de_tup (da_cons (de_var 2) (da_cons de_bl da_nil))) (da_cons (de_tup (da_cons (de_var 2) (da_cons de_non da_nil))) (da_cons (de_tup (da_cons (de_var 2) (da_cons (de_callB cd_len rfl (n_len T) bb_len (da_cons (de_var 2) da_nil)) da_nil))) (da_cons (de_tup (da_cons (de_var 2) (da_cons de_int da_nil))) da_nil)))))) da_nil)))))) dss_nil) (dss_cons (ds_set 5 sc_law_bent.nd (de_call (f_law_take T) (hr.mono (by decide)) tk (da_cons (de_var 0) (da_cons (de_callB cd_len rfl (n_len T) bb_len (da_cons (de_var 2) da_nil)) da_nil)))) (dss_cons (ds_own 6 sc_law_bent.nd (deo_lstD (da_cons (de_bin od_add (de_bin od_add (de_slice (de_var 2) do_none (do_some (de_var 5))) (de_tup (da_cons (de_call (f_law_bent_note T) (hr.mono (by decide)) tk (da_cons (de_var 0) (da_cons (de_sub (de_var 2) (de_var 5)) da_nil))) da_nil))) (de_slice (de_var 2) (do_some (de_bin od_add (de_var 5) de_int)) do_none)) (da_cons (de_bin od_add (de_var 2) (de_slice (de_var 2) (do_some (de_var 5)) (do_some (de_bin od_add (de_var 5) de_int)))) (da_cons (de_slice (de_var 2) do_none (do_some (de_var 5))) da_nil))))) (dss_cons (ds_if (dt_cmp (od_eq (hu64 hr)) (de_sub (de_sub (de_var 2) (de_var 5)) de_int) de_str (by rfl)) (dss_one (ds_append 6 (de_bin od_add (de_var 2) (de_tup (da_cons (de_tup (da_cons de_str (da_cons (de_sub (de_sub (de_var 2) (de_var 5)) de_int) (da_cons (de_bin od_add (de_sub (de_sub (de_var 2) (de_var 5)) de_int) (de_sliceT de_str do_none (do_some (de_bin od_sub de_int (de_callB cd_len rfl (n_len T) bb_len (da_cons (de_sub (de_sub (de_var 2) (de_var 5)) de_int) da_nil)))))) da_nil)))) da_nil))))) dss_nil) (dss_frz 6 (dss_one (ds_ret (de_tup (da_cons (de_call (f_law_pick T) (hr.mono (by decide)) tk (da_cons (de_var 0) (da_cons (de_var 6) da_nil))) (da_cons (de_var 3) da_nil))))))))))))
  exact R
theorem fd_law_is_number : ∃ fd, FunD K "_law_is_number" "_law_is_number" (defArgs s_law_is_number) (defBody s_law_is_number) (defScope s_law_is_number) [] [] (He.ga K "_law_is_number") fd := T.c.z.y.d.def_ 9 (d := d_law_is_number) rfl
theorem f_law_is_number : DFn P w K mg base "_law_is_number" 1 1 m_law_is_number := by
  obtain ⟨fd, F⟩ := fd_law_is_number T
  refine def_of (g__law_is_number T) F.kp rfl (F.bindsN (ps := ["_law_item"]) fun _ _ _ _ _ _ us hl => match us, hl with | [_], _ => by kernel_rfl) ?_
  have R := @dfn_of P w K mg base _ _ s_law_is_number _ fd N_law_is_number _ 0 _ b_law_is_number _ _ F sc_law_is_number rfl (fun cdv A outer s H E dl hr tk hp => by
    exact (dss_one (ds_ret (de_and (de_isi rfl (n_isinstance T) (pe_bltn (v := .ty "int") rfl (n_int T) bb_int rfl) (.ty _) no_cls (kits_ok (x_6 T)) (de_var 0)) (de_one (de_not (de_isi rfl (n_isinstance T) (pe_bltn (v := .ty "bool") rfl (n_bool T) bb_bool rfl) (.ty _) no_cls (kits_ok (x_7 T)) (de_var 0))))))))
  exact R
theorem fd_law_is_name : ∃ fd, FunD K "_law_is_name" "_law_is_name" (defArgs s_law_is_name) (defBody s_law_is_name) (defScope s_law_is_name) [] [] (He.ga K "_law_is_name") fd := T.c.z.y.d.def_ 10 (d := d_law_is_name) rfl
theorem f_law_is_name : DFn P w K mg base "_law_is_name" 1 1 m_law_is_name := by
  obtain ⟨fd, F⟩ := fd_law_is_name T
  refine def_of (g__law_is_name T) F.kp rfl (F.bindsN (ps := ["_law_item"]) fun _ _ _ _ _ _ us hl => match us, hl with | [_], _ => by kernel_rfl) ?_
  have R := @dfn_of P w K mg base _ _ s_law_is_name _ fd N_law_is_name _ 0 _ b_law_is_name _ _ F sc_law_is_name rfl (fun cdv A outer s H E dl hr tk hp => by
    exact (dss_cons (ds_if (dt_w (dw_or (dt_not (dt_val (de_isi rfl (n_isinstance T) (pe_bltn (v := .ty "str") rfl (n_str T) bb_str rfl) (.ty _) no_cls (kits_ok (x_2 T)) (de_var 0)))) (dw_or1 (dt_not (dt_chain od_le od_le de_int (de_callB cd_len rfl (n_len T) bb_len (da_cons (de_var 0) da_nil)) de_int))))) (dss_one (ds_ret de_bl)) dss_nil) (dss_one (ds_ret (de_cmp (od_eq (hu64 hr)) (de_own (deo_lc (own := [("_law_letter", 1)]) rfl sc_law_is_name.nd (dim_of (di_seq (de_var 0))) (blkOk_by (N := N_law_is_name) (sc := defScope s_law_is_name) (by decide +kernel)) (by decide) (fun _ _ _ _ _ => (dg_name 1 sc_law_is_name.nd)) (fun _ _ _ _ _ => (dts_one (dt_cmp od_notIn (de_var 1) de_str (by rfl)))) (fun _ _ _ _ _ => (de_var 1)))) (de_lst da_nil) (by rfl))))))
  exact R
theorem fd_law_is_note : ∃ fd, FunD K "_law_is_note" "_law_is_note" (defArgs s_law_is_note) (defBody s_law_is_note) (defScope s_law_is_note) [] [] (He.ga K "_law_is_note") fd := T.c.z.y.d.def_ 11 (d := d_law_is_note) rfl
theorem f_law_is_note : DFn P w K mg base "_law_is_note" 2 1 m_law_is_note := by
  obtain ⟨fd, F⟩ := fd_law_is_note T
  refine def_of (g__law_is_note T) F.kp rfl (F.bindsN (ps := ["_law_item"]) fun _ _ _ _ _ _ us hl => match us, hl with | [_], _ => by kernel_rfl) ?_
  have R := @dfn_of P w K mg base _ _ s_law_is_note _ fd N_law_is_note _ 1 _ b_law_is_note _ _ F sc_law_is_note rfl (fun cdv A outer s H E dl hr tk hp => by
    exact (dss_cons (ds_if (dt_w (dw_or (dt_not (dt_val (de_isi rfl (n_isinstance T) (pe_bltn (v := .ty "tuple") rfl (n_tuple T) bb_tuple rfl) (.ty _) no_cls (kits_ok (x_5 T)) (de_var 0)))) (dw_or (dt_cmp (od_ninX (hu65 hr)) (de_callB cd_len rfl (n_len T) bb_len (da_cons (de_var 0) da_nil)) (de_tup (da_cons de_int (da_cons de_int da_nil))) (by rfl)) (dw_or1 (dt_not (dt_val (de_isi rfl (n_isinstance T) (pe_bltn (v := .ty "str") rfl (n_str T) bb_str rfl) (.ty _) no_cls (kits_ok (x_2 T)) (de_sub (de_var 0) de_int)))))))) (dss_one (ds_ret de_bl)) dss_nil) (dss_cons (ds_if (dt_w (dw_or (dt_not (dt_val (de_call (f_law_is_number T) (hr.mono (by decide)) tk (da_cons (de_sub (de_var 0) de_int) da_nil)))) (dw_or1 (dt_not (dt_chain od_le od_le de_int (de_sub (de_var 0) de_int) de_int))))) (dss_one (ds_ret de_bl)) dss_nil) (dss_one (ds_ret (de_ifExp (dt_cmp (od_eq (hu64 hr)) (de_callB cd_len rfl (n_len T) bb_len (da_cons (de_var 0) da_nil)) de_int (by rfl)) (de_cmp (od_eq (hu64 hr)) (de_sub (de_var 0) de_int) de_str (by rfl)) (de_and (de_cmp (od_eq (hu64 hr)) (de_sub (de_var 0) de_int) de_str (by rfl)) (de_one (de_call (f_law_is_name T) (hr.mono (by decide)) tk (da_cons (de_sub (de_var 0) de_int) da_nil))))))))))
  exact R
theorem fd_law_are_notes : ∃ fd, FunD K "_law_are_notes" "_law_are_notes" (defArgs s_law_are_notes) (defBody s_law_are_notes) (defScope s_law_are_notes) [] [] (He.ga K "_law_are_notes") fd := T.c.z.y.d.def_ 12 (d := d_law_are_notes) rfl
theorem f_law_are_notes : DFn P w K mg base "_law_are_notes" 3 1 m_law_are_notes := by
  obtain ⟨fd, F⟩ := fd_law_are_notes T
  refine def_of (g__law_are_notes T) F.kp rfl (F.bindsN (ps := ["_law_item"]) fun _ _ _ _ _ _ us hl => match us, hl with | [_], _ => by kernel_rfl) ?_
  have R := @dfn_of P w K mg base _ _ s_law_are_notes _ fd N_law_are_notes _ 2 _ b_law_are_notes _ _ F sc_law_are_notes rfl (fun cdv A outer s H E dl hr tk hp => by
    exact (dss_cons (ds_if (dt_w (dw_or (dt_not (dt_val (de_isi rfl (n_isinstance T) (pe_bltn (v := .ty "tuple") rfl (n_tuple T) bb_tuple rfl) (.ty _) no_cls (kits_ok (x_5 T)) (de_var 0)))) (dw_or1 (dt_cmp (od_ne (hu64 hr)) (de_own (deo_lc (own := [("_law_note", 2)]) rfl sc_law_are_notes.nd (dim_of (di_seq (de_var 0))) (blkOk_by (N := N_law_are_notes) (sc := defScope s_law_are_notes) (by decide +kernel)) (by decide) (fun _ _ _ _ _ => (dg_name 2 sc_law_are_notes.nd)) (fun _ _ _ _ _ => (dts_one (dt_not (dt_val (de_call (f_law_is_note T) (hr.mono (by decide)) takes0 (da_cons (de_var 2) da_nil)))))) (fun _ _ _ _ _ => de_int))) (de_lst da_nil) (by rfl))))) (dss_one (ds_ret de_bl)) dss_nil) (dss_cons (ds_for hp rfl (di_enumA rfl (n_enumerate T) (da_cons (de_var 0) da_nil)) (dg_tup (n := 2) rfl (lenK (lenK lenN)) (dgs_cons (dg_name 1 sc_law_are_notes.nd) (dgs_cons (dg_name 2 sc_law_are_notes.nd) dgs_nil))) (dss_one (ds_if (dt_cmp (od_ne (hu64 hr)) (de_own (deo_lc (own := [("_law_mate", 3)]) rfl sc_law_are_notes.nd (dim_of (di_seq (de_slice (de_var 0) do_none (do_some (de_var 1))))) (blkOk_by (N := N_law_are_notes) (sc := defScope s_law_are_notes) (by decide +kernel)) (by decide) (fun _ _ _ _ _ => (dg_name 3 sc_law_are_notes.nd)) (fun _ _ _ _ _ => (dts_one (dt_w (dw_or (dt_cmp (od_eq (hu64 hr)) (de_var 3) (de_var 2) (by rfl)) (dw_or1 (dt_w (dw_and (dt_chain (od_eq (hu64 hr)) (od_eq (hu64 hr)) (de_callB cd_len rfl (n_len T) bb_len (da_cons (de_var 3) da_nil)) (de_callB cd_len rfl (n_len T) bb_len (da_cons (de_var 2) da_nil)) de_int) (dw_and1 (dt_cmp (od_eq (hu64 hr)) (de_sub (de_var 3) de_int) (de_sub (de_var 2) de_int) (by rfl)))))))))) (fun _ _ _ _ _ => de_int))) (de_lst da_nil) (by rfl)) (dss_one (ds_ret de_bl)) dss_nil))) (dss_one (ds_ret de_bl)))))
  exact R
theorem fd_law_is_tape : ∃ fd, FunD K "_law_is_tape" "_law_is_tape" (defArgs s_law_is_tape) (defBody s_law_is_tape) (defScope s_law_is_tape) [] [] (He.ga K "_law_is_tape") fd := T.c.z.y.d.def_ 13 (d := d_law_is_tape) rfl
theorem f_law_is_tape : DFn P w K mg base "_law_is_tape" 4 1 m_law_is_tape := by
  obtain ⟨fd, F⟩ := fd_law_is_tape T
  refine def_of (g__law_is_tape T) F.kp rfl (F.bindsN (ps := ["_law_item"]) fun _ _ _ _ _ _ us hl => match us, hl with | [_], _ => by kernel_rfl) ?_
  have R := @dfn_of P w K mg base _ _ s_law_is_tape _ fd N_law_is_tape _ 3 _ b_law_is_tape _ _ F sc_law_is_tape rfl (fun cdv A outer s H E dl hr tk hp => by
    exact (dss_cons (ds_if (dt_w (dw_or (dt_not (dt_val (de_isi rfl (n_isinstance T) (pe_bltn (v := .ty "tuple") rfl (n_tuple T) bb_tuple rfl) (.ty _) no_cls (kits_ok (x_5 T)) (de_var 0)))) (dw_or (dt_cmp (od_ne (hu64 hr)) (de_callB cd_len rfl (n_len T) bb_len (da_cons (de_var 0) da_nil)) de_int (by rfl)) (dw_or1 (dt_not (dt_val (de_call (f_law_are_notes T) (hr.mono (by decide)) tk (da_cons (de_sub (de_var 0) de_int) da_nil)))))))) (dss_one (ds_ret de_bl)) dss_nil) (dss_one (ds_ret (de_and (de_call (f_law_is_number T) (hr.mono (by decide)) tk (da_cons (de_sub (de_var 0) de_int) da_nil)) (de_one (de_chain od_le od_le de_int (de_sub (de_var 0) de_int) (de_callB cd_len rfl (n_len T) bb_len (da_cons (de_sub (de_var 0) de_int) da_nil)))))))))
  exact R
theorem fd_law_does_fit : ∃ fd, FunD K "_law_does_fit" "_law_does_fit" (defArgs s_law_does_fit) (defBody s_law_does_fit) (defScope s_law_does_fit) [] [] (He.ga K "_law_does_fit") fd := T.c.z.y.d.def_ 14 (d := d_law_does_fit) rfl
theorem f_law_does_fit : DFn P w K mg base "_law_does_fit" 1 2 m_law_does_fit := by
  obtain ⟨fd, F⟩ := fd_law_does_fit T
  refine def_of (g__law_does_fit T) F.kp rfl (F.bindsN (ps := ["_law_notes", "_law_note"]) fun _ _ _ _ _ _ us hl => match us, hl with | [_, _], _ => by kernel_rfl) ?_
  have R := @dfn_of P w K mg base _ _ s_law_does_fit _ fd N_law_does_fit _ 0 _ b_law_does_fit _ _ F sc_law_does_fit rfl (fun cdv A outer s H E dl hr tk hp => by
    exact (dss_one (ds_ret (de_cmp (od_eq (hu64 hr)) (de_own (deo_lc (own := [("_law_mate", 2)]) rfl sc_law_does_fit.nd (dim_of (di_seq (de_var 0))) (blkOk_by (N := N_law_does_fit) (sc := defScope s_law_does_fit) (by decide +kernel)) (by decide) (fun _ _ _ _ _ => (dg_name 2 sc_law_does_fit.nd)) (fun _ _ _ _ _ => (dts_one (dt_w (dw_and (dt_cmp (od_eq (hu64 hr)) (de_callB cd_len rfl (n_len T) bb_len (da_cons (de_var 1) da_nil)) de_int (by rfl)) (dw_and (dt_cmp (od_eq (hu64 hr)) (de_slice (de_var 2) do_none (do_some de_int)) (de_slice (de_var 1) do_none (do_some de_int)) (by rfl)) (dw_and1 (dt_cmp (od_ne (hu64 hr)) (de_var 2) (de_var 1) (by rfl)))))))) (fun _ _ _ _ _ => de_int))) (de_lst da_nil) (by rfl)))))
  exact R
theorem fd_law_word : ∃ fd, FunD K "_law_word" "_law_word" (defArgs s_law_word) (defBody s_law_word) (defScope s_law_word) [] [] (He.ga K "_law_word") fd := T.c.z.y.d.def_ 15 (d := d_law_word) rfl
theorem wd_law_word : ∃ fd, FunD K "_law_word" "_law_word" (defArgs s_law_word) (defBody s_law_word) (defScope s_law_word) [] [] (He.ga K "_law_word") fd ∧ Binds K fd ["_law_job"] [] := by
  obtain ⟨fd, F⟩ := fd_law_word T
  exact ⟨fd, F, F.bindsN fun _ _ _ _ _ _ us hl => match us, hl with | [_], _ => by kernel_rfl⟩
theorem fd_is_number : ∃ fd, FunD K "is_number" "is_number" (defArgs s_is_number) (defBody s_is_number) (defScope s_is_number) [] [] (He.ga K "is_number") fd := T.c.z.y.d.def_ 16 (d := d_is_number) rfl
theorem f_is_number : DFn P w K mg base "is_number" 1 1 m_is_number := by
  obtain ⟨fd, F⟩ := fd_is_number T
  refine def_of (g_is_number T) F.kp rfl (F.bindsN (ps := ["thing"]) fun _ _ _ _ _ _ us hl => match us, hl with | [_], _ => by kernel_rfl) ?_
  have R := @dfn_of P w K mg base _ _ s_is_number _ fd N_is_number _ 0 _ b_is_number _ _ F sc_is_number rfl (fun cdv A outer s H E dl hr tk hp => by
    exact (dss_one (ds_ret (de_and (de_isi rfl (n_isinstance T) (pe_bltn (v := .ty "int") rfl (n_int T) bb_int rfl) (.ty _) no_cls (kits_ok (x_6 T)) (de_var 0)) (de_one (de_not (de_isi rfl (n_isinstance T) (pe_bltn (v := .ty "bool") rfl (n_bool T) bb_bool rfl) (.ty _) no_cls (kits_ok (x_7 T)) (de_var 0))))))))
  exact R
theorem fd_is_term : ∃ fd, FunD K "is_term" "is_term" (defArgs s_is_term) (defBody s_is_term) (defScope s_is_term) [] [] (He.ga K "is_term") fd := T.c.z.y.d.def_ 17 (d := d_is_term) rfl
theorem f_is_term : DFn P w K mg base "is_term" 2 1 m_is_term := by
  obtain ⟨fd, F⟩ := fd_is_term T
  refine def_of (g_is_term T) F.kp rfl (F.bindsN (ps := ["thing"]) fun _ _ _ _ _ _ us hl => match us, hl with | [_], _ => by kernel_rfl) ?_
  have R := @dfn_of P w K mg base _ _ s_is_term _ fd N_is_term _ 1 _ b_is_term _ _ F sc_is_term rfl (fun cdv A outer s H E dl hr tk hp => by
    exact (dss_one (ds_ret (de_and (de_call (f_is_number T) (hr.mono (by decide)) tk (da_cons (de_var 0) da_nil)) (de_one (de_chain od_le od_le de_int (de_var 0) (de_gint rfl (c_MOST_TERM T).choose_spec)))))))
  exact R
theorem fd_is_name : ∃ fd, FunD K "is_name" "is_name" (defArgs s_is_name) (defBody s_is_name) (defScope s_is_name) [] [] (He.ga K "is_name") fd := T.c.z.y.d.def_ 18 (d := d_is_name) rfl
theorem f_is_name : DFn P w K mg base "is_name" 1 1 m_is_name := by
  obtain ⟨fd, F⟩ := fd_is_name T
  refine def_of (g_is_name T) F.kp rfl (F.bindsN (ps := ["thing"]) fun _ _ _ _ _ _ us hl => match us, hl with | [_], _ => by kernel_rfl) ?_
  have R := @dfn_of P w K mg base _ _ s_is_name _ fd N_is_name _ 0 _ b_is_name _ _ F sc_is_name rfl (fun cdv A outer s H E dl hr tk hp => by
    exact (dss_one (ds_ret (de_and (de_isi rfl (n_isinstance T) (pe_bltn (v := .ty "str") rfl (n_str T) bb_str rfl) (.ty _) no_cls (kits_ok (x_2 T)) (de_var 0)) (de_and (de_chain od_le od_le de_int (de_callB cd_len rfl (n_len T) bb_len (da_cons (de_var 0) da_nil)) de_int) (de_one (de_callB (cd_all rfl) rfl (n_all T) bb_all (da_cons (de_own (deo_lc (own := [("sign", 1)]) rfl sc_is_name.nd (dim_of (di_seq (de_var 0))) (blkOk_by (N := N_is_name) (sc := defScope s_is_name) (by decide +kernel)) (by decide) (fun _ _ _ _ _ => (dg_name 1 sc_is_name.nd)) (fun _ _ _ _ _ => dts_nil) (fun _ _ _ _ _ => (de_cmp od_in (de_var 1) (de_gstr rfl (c_LETTERS T).choose_spec) (by rfl))))) da_nil))))))))
  exact R
theorem fd_is_pair : ∃ fd, FunD K "is_pair" "is_pair" (defArgs s_is_pair) (defBody s_is_pair) (defScope s_is_pair) [] [] (He.ga K "is_pair") fd := T.c.z.y.d.def_ 19 (d := d_is_pair) rfl
theorem f_is_pair : DFn P w K mg base "is_pair" 3 1 m_is_pair := by
  obtain ⟨fd, F⟩ := fd_is_pair T
  refine def_of (g_is_pair T) F.kp rfl (F.bindsN (ps := ["thing"]) fun _ _ _ _ _ _ us hl => match us, hl with | [_], _ => by kernel_rfl) ?_
  have R := @dfn_of P w K mg base _ _ s_is_pair _ fd N_is_pair _ 2 _ b_is_pair _ _ F sc_is_pair rfl (fun cdv A outer s H E dl hr tk hp => by
    exact (dss_one (ds_ret (de_and (de_isi rfl (n_isinstance T) (pe_bltn (v := .ty "tuple") rfl (n_tuple T) bb_tuple rfl) (.ty _) no_cls (kits_ok (x_5 T)) (de_var 0)) (de_and (de_cmp (od_eq (hu64 hr)) (de_callB cd_len rfl (n_len T) bb_len (da_cons (de_var 0) da_nil)) de_int (by rfl)) (de_and (de_call (f_is_term T) (hr.mono (by decide)) tk (da_cons (de_sub (de_var 0) de_int) da_nil)) (de_one (de_call (f_is_name T) (hr.mono (by decide)) tk (da_cons (de_sub (de_var 0) de_int) da_nil)))))))))
  exact R
theorem fd_is_record : ∃ fd, FunD K "is_record" "is_record" (defArgs s_is_record) (defBody s_is_record) (defScope s_is_record) [] [] (He.ga K "is_record") fd := T.c.z.y.d.def_ 20 (d := d_is_record) rfl
theorem f_is_record : DFn P w K mg base "is_record" 4 1 m_is_record := by
  obtain ⟨fd, F⟩ := fd_is_record T
  refine def_of (g_is_record T) F.kp rfl (F.bindsN (ps := ["thing"]) fun _ _ _ _ _ _ us hl => match us, hl with | [_], _ => by kernel_rfl) ?_
  have R := @dfn_of P w K mg base _ _ s_is_record _ fd N_is_record _ 3 _ b_is_record _ _ F sc_is_record rfl (fun cdv A outer s H E dl hr tk hp => by
    exact (dss_cons (ds_if (dt_w (dw_or (dt_not (dt_val (de_isi rfl (n_isinstance T) (pe_bltn (v := .ty "tuple") rfl (n_tuple T) bb_tuple rfl) (.ty _) no_cls (kits_ok (x_5 T)) (de_var 0)))) (dw_or (dt_cmp od_ltI (de_callB cd_len rfl (n_len T) bb_len (da_cons (de_var 0) da_nil)) de_int (by rfl)) (dw_or1 (dt_not (dt_val (de_isi rfl (n_isinstance T) (pe_bltn (v := .ty "str") rfl (n_str T) bb_str rfl) (.ty _) no_cls (kits_ok (x_2 T)) (de_sub (de_var 0) de_int)))))))) (dss_one (ds_ret de_bl)) dss_nil) (dss_cons (ds_if (dt_cmp (od_eq (hu64 hr)) (de_sub (de_var 0) de_int) de_str (by rfl)) (dss_one (ds_ret (de_and (de_cmp (od_eq (hu64 hr)) (de_callB cd_len rfl (n_len T) bb_len (da_cons (de_var 0) da_nil)) de_int (by rfl)) (de_one (de_call (f_is_term T) (hr.mono (by decide)) tk (da_cons (de_sub (de_var 0) de_int) da_nil)))))) dss_nil) (dss_one (ds_ret (de_and (de_cmp (od_eq (hu64 hr)) (de_sub (de_var 0) de_int) de_str (by rfl)) (de_one (de_call (f_is_pair T) (hr.mono (by decide)) tk (da_cons (de_slice (de_var 0) (do_some de_int) do_none) da_nil)))))))))
  exact R
theorem fd_fits : ∃ fd, FunD K "fits" "fits" (defArgs s_fits) (defBody s_fits) (defScope s_fits) [] [] (He.ga K "fits") fd := T.c.z.y.d.def_ 21 (d := d_fits) rfl
theorem f_fits : DFn P w K mg base "fits" 1 2 m_fits := by
  obtain ⟨fd, F⟩ := fd_fits T
  refine def_of (g_fits T) F.kp rfl (F.bindsN (ps := ["records", "record"]) fun _ _ _ _ _ _ us hl => match us, hl with | [_, _], _ => by kernel_rfl) ?_
  have R := @dfn_of P w K mg base _ _ s_fits _ fd N_fits _ 0 _ b_fits _ _ F sc_fits rfl (fun cdv A outer s H E dl hr tk hp => by
    exact (dss_one (ds_ret (de_callB (cd_all rfl) rfl (n_all T) bb_all (da_cons (de_own (deo_lc (own := [("one", 2)]) rfl sc_fits.nd (dim_of (di_seq (de_var 0))) (blkOk_by (N := N_fits) (sc := defScope s_fits) (by decide +kernel)) (by decide) (fun _ _ _ _ _ => (dg_name 2 sc_fits.nd)) (fun _ _ _ _ _ => (dts_one (dt_w (dw_and (dt_chain (od_eq (hu64 hr)) (od_eq (hu64 hr)) (de_sub (de_var 2) de_int) (de_sub (de_var 1) de_int) de_str) (dw_and1 (dt_cmp (od_eq (hu64 hr)) (de_sub (de_var 2) de_int) (de_sub (de_var 1) de_int) (by rfl))))))) (fun _ _ _ _ _ => (de_cmp (od_eq (hu64 hr)) (de_sub (de_var 2) de_int) (de_sub (de_var 1) de_int) (by rfl))))) da_nil)))))
  exact R
theorem fd_are_records : ∃ fd, FunD K "are_records" "are_records" (defArgs s_are_records) (defBody s_are_records) (defScope s_are_records) [] [] (He.ga K "are_records") fd := T.c.z.y.d.def_ 22 (d := d_are_records) rfl
theorem f_are_records : DFn P w K mg base "are_records" 5 1 m_are_records := by
  obtain ⟨fd, F⟩ := fd_are_records T
  refine def_of (g_are_records T) F.kp rfl (F.bindsN (ps := ["thing"]) fun _ _ _ _ _ _ us hl => match us, hl with | [_], _ => by kernel_rfl) ?_
  have R := @dfn_of P w K mg base _ _ s_are_records _ fd N_are_records _ 4 _ b_are_records _ _ F sc_are_records rfl (fun cdv A outer s H E dl hr tk hp => by
    exact (dss_cons (ds_if (dt_w (dw_or (dt_not (dt_val (de_isi rfl (n_isinstance T) (pe_bltn (v := .ty "tuple") rfl (n_tuple T) bb_tuple rfl) (.ty _) no_cls (kits_ok (x_5 T)) (de_var 0)))) (dw_or1 (dt_not (dt_val (de_callB (cd_all rfl) rfl (n_all T) bb_all (da_cons (de_own (deo_lc (own := [("one", 1)]) rfl sc_are_records.nd (dim_of (di_seq (de_var 0))) (blkOk_by (N := N_are_records) (sc := defScope s_are_records) (by decide +kernel)) (by decide) (fun _ _ _ _ _ => (dg_name 1 sc_are_records.nd)) (fun _ _ _ _ _ => dts_nil) (fun _ _ _ _ _ => (de_call (f_is_record T) (hr.mono (by decide)) takes0 (da_cons (de_var 1) da_nil))))) da_nil))))))) (dss_one (ds_ret de_bl)) dss_nil) (dss_one (ds_ret (de_callB (cd_all rfl) rfl (n_all T) bb_all (da_cons (de_own (deo_lc (own := [("at", 2), ("one", 1)]) rfl sc_are_records.nd (dim_of (di_enumA rfl (n_enumerate T) (da_cons (de_var 0) da_nil))) (blkOk_by (N := N_are_records) (sc := defScope s_are_records) (by decide +kernel)) (by decide) (fun _ _ _ _ _ => (dg_tup (n := 2) rfl (lenK (lenK lenN)) (dgs_cons (dg_name 2 sc_are_records.nd) (dgs_cons (dg_name 1 sc_are_records.nd) dgs_nil)))) (fun _ _ _ _ _ => dts_nil) (fun _ _ _ _ _ => (de_and (de_cmp (od_ninX (hu65 hr)) (de_var 1) (de_slice (de_var 0) do_none (do_some (de_var 2))) (by rfl)) (de_one (de_call (f_fits T) (hr.mono (by decide)) takes0 (da_cons (de_slice (de_var 0) do_none (do_some (de_var 2))) (da_cons (de_var 1) da_nil)))))))) da_nil))))))
  exact R
theorem fd_is_log : ∃ fd, FunD K "is_log" "is_log" (defArgs s_is_log) (defBody s_is_log) (defScope s_is_log) [] [] (He.ga K "is_log") fd := T.c.z.y.d.def_ 23 (d := d_is_log) rfl
theorem f_is_log : DFn P w K mg base "is_log" 6 1 m_is_log := by
  obtain ⟨fd, F⟩ := fd_is_log T
  refine def_of (g_is_log T) F.kp rfl (F.bindsN (ps := ["thing"]) fun _ _ _ _ _ _ us hl => match us, hl with | [_], _ => by kernel_rfl) ?_
  have R := @dfn_of P w K mg base _ _ s_is_log _ fd N_is_log _ 5 _ b_is_log _ _ F sc_is_log rfl (fun cdv A outer s H E dl hr tk hp => by
    exact (dss_cons (ds_if (dt_w (dw_or (dt_not (dt_val (de_isi rfl (n_isinstance T) (pe_bltn (v := .ty "tuple") rfl (n_tuple T) bb_tuple rfl) (.ty _) no_cls (kits_ok (x_5 T)) (de_var 0)))) (dw_or (dt_cmp (od_ne (hu64 hr)) (de_callB cd_len rfl (n_len T) bb_len (da_cons (de_var 0) da_nil)) de_int (by rfl)) (dw_or1 (dt_not (dt_val (de_call (f_are_records T) (hr.mono (by decide)) tk (da_cons (de_sub (de_var 0) de_int) da_nil)))))))) (dss_one (ds_ret de_bl)) dss_nil) (dss_one (ds_ret (de_and (de_call (f_is_number T) (hr.mono (by decide)) tk (da_cons (de_sub (de_var 0) de_int) da_nil)) (de_one (de_chain od_le od_le de_int (de_sub (de_var 0) de_int) (de_callB cd_len rfl (n_len T) bb_len (da_cons (de_sub (de_var 0) de_int) da_nil)))))))))
  exact R
theorem fd_need_log : ∃ fd, FunD K "need_log" "need_log" (defArgs s_need_log) (defBody s_need_log) (defScope s_need_log) [] [] (He.ga K "need_log") fd := T.c.z.y.d.def_ 24 (d := d_need_log) rfl
theorem f_need_log : DFn P w K mg base "need_log" 7 1 m_need_log := by
  obtain ⟨fd, F⟩ := fd_need_log T
  refine def_of (g_need_log T) F.kp rfl (F.bindsN (ps := ["log"]) fun _ _ _ _ _ _ us hl => match us, hl with | [_], _ => by kernel_rfl) ?_
  have R := @dfn_of P w K mg base _ _ s_need_log _ fd N_need_log _ 6 _ b_need_log _ _ F sc_need_log rfl (fun cdv A outer s H E dl hr tk hp => by
    exact (dss_one (ds_if (dt_not (dt_val (de_call (f_is_log T) (hr.mono (by decide)) tk (da_cons (de_var 0) da_nil)))) (dss_one (ds_raise0 (x0_BadLog T) rfl tk)) dss_nil)))
  exact R
theorem fd_written_by : ∃ fd, FunD K "written_by" "written_by" (defArgs s_written_by) (defBody s_written_by) (defScope s_written_by) [] [] (He.ga K "written_by") fd := T.c.z.y.d.def_ 25 (d := d_written_by) rfl
theorem f_written_by : DFn P w K mg base "written_by" 1 3 m_written_by := by
  obtain ⟨fd, F⟩ := fd_written_by T
  refine def_of (g_written_by T) F.kp rfl (F.bindsN (ps := ["hand", "log", "record"]) fun _ _ _ _ _ _ us hl => match us, hl with | [_, _, _], _ => by kernel_rfl) ?_
  have R := @dfn_of P w K mg base _ _ s_written_by _ fd N_written_by _ 0 _ b_written_by _ _ F sc_written_by rfl (fun cdv A outer s H E dl hr tk hp => by
    exact (dss_cons (ds_asg (de_var 1) (dg_tup (n := 2) rfl (lenK (lenK lenN)) (dgs_cons (dg_name 3 sc_written_by.nd) (dgs_cons (dg_name 4 sc_written_by.nd) dgs_nil)))) (dss_cons (ds_set 5 sc_written_by.nd (de_ifExp (dt_cmp (od_eq (hu64 hr)) (de_sub (de_var 2) de_int) de_str (by rfl)) (de_fld (fld_Hand_own_promise T) (de_var 0)) (de_fld (fld_Hand_own_entry T) (de_var 0)))) (dss_cons (ds_if (dt_w (dw_or (dt_cmp (od_eq (hu64 hr)) (de_var 5) de_str (by rfl)) (dw_or1 (dt_cmp (od_inX (hu65 hr)) (de_var 2) (de_var 3) (by rfl))))) (dss_one (ds_ret (de_var 1))) dss_nil) (dss_one (ds_ret (de_tup (da_cons (de_tup (da_star (de_var 3) (da_cons (de_var 2) da_nil))) (da_cons (de_ifExp (dt_cmp (od_eq (hu64 hr)) (de_var 5) de_str (by rfl)) (de_bin od_add (de_callB cd_len rfl (n_len T) bb_len (da_cons (de_var 3) da_nil)) de_int) (de_var 4)) da_nil)))))))))
  exact R
theorem fd_written : ∃ fd, FunD K "written" "written" (defArgs s_written) (defBody s_written) (defScope s_written) [] [] (He.ga K "written") fd := T.c.z.y.d.def_ 26 (d := d_written) rfl
theorem f_written : DFn P w K mg base "written" 8 3 m_written := by
  obtain ⟨fd, F⟩ := fd_written T
  refine def_of (g_written T) F.kp rfl (F.bindsN (ps := ["hand", "log", "record"]) fun _ _ _ _ _ _ us hl => match us, hl with | [_, _, _], _ => by kernel_rfl) ?_
  have R := @dfn_of P w K mg base _ _ s_written _ fd N_written _ 7 _ b_written _ _ F sc_written rfl (fun cdv A outer s H E dl hr tk hp => by
    exact (dss_cons (ds_if (dt_not (dt_val (de_isi rfl (n_isinstance T) (pe_glob (v := .ref (He.ga K "Hand")) rfl (g_Hand T) rfl) (.own _) (one_cls (isi_ok (g_Hand T) (cl_Hand T) (x_4 T)) no_cls) (kits_ok (x_3 T)) (de_var 0)))) (dss_one (ds_raise1 (k := 0) (x1_BadHand T) rfl (hr.mono (by decide)) tk de_str)) dss_nil) (dss_cons (ds_expr (de_call (f_need_log T) (hr.mono (by decide)) tk (da_cons (de_var 1) da_nil))) (dss_cons (ds_if (dt_w (dw_or (dt_not (dt_val (de_call (f_is_record T) (hr.mono (by decide)) tk (da_cons (de_var 2) da_nil)))) (dw_or1 (dt_not (dt_val (de_call (f_fits T) (hr.mono (by decide)) tk (da_cons (de_sub (de_var 1) de_int) (da_cons (de_var 2) da_nil)))))))) (dss_one (ds_raise0 (x0_BadRecord T) rfl tk)) dss_nil) (dss_one (ds_ret (de_call (f_written_by T) (hr.mono (by decide)) tk (da_cons (de_var 0) (da_cons (de_var 1) (da_cons (de_var 2) da_nil))))))))))
  exact R
theorem fd_leavings : ∃ fd, FunD K "leavings" "leavings" (defArgs s_leavings) (defBody s_leavings) (defScope s_leavings) [] [] (He.ga K "leavings") fd := T.c.z.y.d.def_ 27 (d := d_leavings) rfl
theorem f_leavings : DFn P w K mg base "leavings" 1 1 m_leavings := by
  obtain ⟨fd, F⟩ := fd_leavings T
  refine def_of (g_leavings T) F.kp rfl (F.bindsN (ps := ["log"]) fun _ _ _ _ _ _ us hl => match us, hl with | [_], _ => by kernel_rfl) ?_
  have R := @dfn_of P w K mg base _ _ s_leavings _ fd N_leavings _ 0 _ b_leavings _ _ F sc_leavings rfl (fun cdv A outer s H E dl hr tk hp => by
    exact (dss_one (ds_ret (de_own (deo_rng2 rfl rfl (n_list T) rfl (n_range T) (de_sub (de_var 0) de_int) (de_bin od_add (de_callB cd_len rfl (n_len T) bb_len (da_cons (de_sub (de_var 0) de_int) da_nil)) de_int))))))
  exact R
theorem fd_can_leave : ∃ fd, FunD K "can_leave" "can_leave" (defArgs s_can_leave) (defBody s_can_leave) (defScope s_can_leave) [] [] (He.ga K "can_leave") fd := T.c.z.y.d.def_ 28 (d := d_can_leave) rfl
theorem f_can_leave : DFn P w K mg base "can_leave" 8 1 m_can_leave := by
  obtain ⟨fd, F⟩ := fd_can_leave T
  refine def_of (g_can_leave T) F.kp rfl (F.bindsN (ps := ["log"]) fun _ _ _ _ _ _ us hl => match us, hl with | [_], _ => by kernel_rfl) ?_
  have R := @dfn_of P w K mg base _ _ s_can_leave _ fd N_can_leave _ 7 _ b_can_leave _ _ F sc_can_leave rfl (fun cdv A outer s H E dl hr tk hp => by
    exact (dss_cons (ds_expr (de_call (f_need_log T) (hr.mono (by decide)) tk (da_cons (de_var 0) da_nil))) (dss_one (ds_ret (de_call (f_leavings T) (hr.mono (by decide)) tk (da_cons (de_var 0) da_nil))))))
  exact R
theorem fd_fallen : ∃ fd, FunD K "fallen" "fallen" (defArgs s_fallen) (defBody s_fallen) (defScope s_fallen) [] [] (He.ga K "fallen") fd := T.c.z.y.d.def_ 29 (d := d_fallen) rfl
theorem f_fallen : DFn P w K mg base "fallen" 8 2 m_fallen := by
  obtain ⟨fd, F⟩ := fd_fallen T
  refine def_of (g_fallen T) F.kp rfl (F.bindsN (ps := ["log", "left"]) fun _ _ _ _ _ _ us hl => match us, hl with | [_, _], _ => by kernel_rfl) ?_
  have R := @dfn_of P w K mg base _ _ s_fallen _ fd N_fallen _ 7 _ b_fallen _ _ F sc_fallen rfl (fun cdv A outer s H E dl hr tk hp => by
    exact (dss_cons (ds_expr (de_call (f_need_log T) (hr.mono (by decide)) tk (da_cons (de_var 0) da_nil))) (dss_cons (ds_if (dt_w (dw_or (dt_not (dt_val (de_call (f_is_number T) (hr.mono (by decide)) tk (da_cons (de_var 1) da_nil)))) (dw_or1 (dt_cmp (od_ninX (hu65 hr)) (de_var 1) (de_call (f_leavings T) (hr.mono (by decide)) tk (da_cons (de_var 0) da_nil)) (by rfl))))) (dss_one (ds_raise1 (k := 0) (x1_BadLeft T) rfl (hr.mono (by decide)) tk (de_var 1))) dss_nil) (dss_one (ds_ret (de_tup (da_cons (de_slice (de_sub (de_var 0) de_int) do_none (do_some (de_var 1))) (da_cons (de_var 1) da_nil))))))))
  exact R
theorem fd_read_of : ∃ fd, FunD K "read_of" "read_of" (defArgs s_read_of) (defBody s_read_of) (defScope s_read_of) [] [] (He.ga K "read_of") fd := T.c.z.y.d.def_ 30 (d := d_read_of) rfl
theorem f_read_of : DFn P w K mg base "read_of" 1 1 m_read_of := by
  obtain ⟨fd, F⟩ := fd_read_of T
  refine def_of (g_read_of T) F.kp rfl (F.bindsN (ps := ["records"]) fun _ _ _ _ _ _ us hl => match us, hl with | [_], _ => by kernel_rfl) ?_
  have R := @dfn_of P w K mg base _ _ s_read_of _ fd N_read_of _ 0 _ b_read_of _ _ F sc_read_of rfl (fun cdv A outer s H E dl hr tk hp => by
    exact (dss_cons (ds_asg (de_tup (da_cons de_int (da_cons (de_tup da_nil) da_nil))) (dg_tup (n := 2) rfl (lenK (lenK lenN)) (dgs_cons (dg_name 1 sc_read_of.nd) (dgs_cons (dg_name 2 sc_read_of.nd) dgs_nil)))) (dss_cons (ds_for hp rfl (di_seq (de_var 0)) (dg_name 3 sc_read_of.nd) (dss_cons (ds_set 1 sc_read_of.nd (de_callB (cd_max rfl) rfl (n_max T) bb_max (da_cons (de_var 1) (da_cons (de_sub (de_var 3) de_int) da_nil)))) (dss_one (ds_if (dt_cmp (od_eq (hu64 hr)) (de_sub (de_var 3) de_int) de_str (by rfl)) (dss_one (ds_set 2 sc_read_of.nd (de_slice (de_var 3) (do_some de_int) do_none))) dss_nil)))) (dss_one (ds_ret (de_tup (da_cons (de_var 1) (da_cons (de_var 2) da_nil))))))))
  exact R
theorem fd_read : ∃ fd, FunD K "read" "read" (defArgs s_read) (defBody s_read) (defScope s_read) [] [] (He.ga K "read") fd := T.c.z.y.d.def_ 31 (d := d_read) rfl
theorem f_read : DFn P w K mg base "read" 6 1 m_read := by
  obtain ⟨fd, F⟩ := fd_read T
  refine def_of (g_read T) F.kp rfl (F.bindsN (ps := ["records"]) fun _ _ _ _ _ _ us hl => match us, hl with | [_], _ => by kernel_rfl) ?_
  have R := @dfn_of P w K mg base _ _ s_read _ fd N_read _ 5 _ b_read _ _ F sc_read rfl (fun cdv A outer s H E dl hr tk hp => by
    exact (dss_cons (ds_if (dt_not (dt_val (de_call (f_are_records T) (hr.mono (by decide)) tk (da_cons (de_var 0) da_nil)))) (dss_one (ds_raise0 (x0_BadLog T) rfl tk)) dss_nil) (dss_one (ds_ret (de_call (f_read_of T) (hr.mono (by decide)) tk (da_cons (de_var 0) da_nil))))))
  exact R
theorem fd_may_forget : ∃ fd, FunD K "may_forget" "may_forget" (defArgs s_may_forget) (defBody s_may_forget) (defScope s_may_forget) [] [] (He.ga K "may_forget") fd := T.c.z.y.d.def_ 32 (d := d_may_forget) rfl
theorem f_may_forget : DFn P w K mg base "may_forget" 2 1 m_may_forget := by
  obtain ⟨fd, F⟩ := fd_may_forget T
  refine def_of (g_may_forget T) F.kp rfl (F.bindsN (ps := ["hand"]) fun _ _ _ _ _ _ us hl => match us, hl with | [_], _ => by kernel_rfl) ?_
  have R := @dfn_of P w K mg base _ _ s_may_forget _ fd N_may_forget _ 1 _ b_may_forget _ _ F sc_may_forget rfl (fun cdv A outer s H E dl hr tk hp => by
    exact (dss_cons (ds_if (dt_not (dt_val (de_isi rfl (n_isinstance T) (pe_glob (v := .ref (He.ga K "Hand")) rfl (g_Hand T) rfl) (.own _) (one_cls (isi_ok (g_Hand T) (cl_Hand T) (x_4 T)) no_cls) (kits_ok (x_3 T)) (de_var 0)))) (dss_one (ds_raise1 (k := 0) (x1_BadHand T) rfl (hr.mono (by decide)) tk de_str)) dss_nil) (dss_cons (ds_if (dt_cmp (od_eq (hu64 hr)) (de_fld (fld_Hand_own_back T) (de_var 0)) de_str (by rfl)) (dss_one (ds_ret (de_tup da_nil))) dss_nil) (dss_cons (ds_set 1 sc_may_forget.nd (de_lst (da_cons (de_tup (da_cons de_str (da_cons (de_fld (fld_Hand_own_entry T) (de_var 0)) da_nil))) (da_cons (de_tup (da_cons de_str (da_cons (de_fld (fld_Hand_own_promise T) (de_var 0)) da_nil))) da_nil)))) (dss_one (ds_ret (de_callTy cd_tuple rfl (n_tuple T) bb_tuple (da_cons (de_own (deo_lc (own := [("name", 2), ("word", 3)]) rfl sc_may_forget.nd (dim_of (di_seq (de_var 1))) (blkOk_by (N := N_may_forget) (sc := defScope s_may_forget) (by decide +kernel)) (by decide) (fun _ _ _ _ _ => (dg_tup (n := 2) rfl (lenK (lenK lenN)) (dgs_cons (dg_name 2 sc_may_forget.nd) (dgs_cons (dg_name 3 sc_may_forget.nd) dgs_nil)))) (fun _ _ _ _ _ => (dts_one (dt_cmp (od_ne (hu64 hr)) (de_var 3) de_str (by rfl)))) (fun _ _ _ _ _ => (de_var 2)))) da_nil))))))))
  exact R
theorem fd_law_full_right : ∃ fd, FunD K "_law_full_right" "_law_full_right" (defArgs s_law_full_right) (defBody s_law_full_right) (defScope s_law_full_right) [] [] (He.ga K "_law_full_right") fd := T.c.z.y.d.def_ 33 (d := d_law_full_right) rfl
theorem f_law_full_right (TB : TBs K tf mg base) : DFnG P w K mg base (tabsOf K tf lamN) "_law_full_right" 12 1 m_law_full_right := by
  obtain ⟨fd, F⟩ := fd_law_full_right T
  refine def_ofG (g__law_full_right T) F.kp rfl (F.bindsN (ps := ["_law_draw"]) fun _ _ _ _ _ _ us hl => match us, hl with | [_], _ => by kernel_rfl) ?_
  have R := @dfn_ofG P w K mg base _ _ _ fd (tabsOf K tf lamN) s_law_full_right N_law_full_right _ 11 _ b_law_full_right _ _ F sc_law_full_right rfl (fun cdv A outer s H E dl hr tk hp hG hT hcd hC => by
    exact (dss_cons (ds_set 1 sc_law_full_right.nd (de_callTy cd_tuple rfl (n_tuple T) bb_tuple (da_cons (de_bin od_add (de_own (deo_lc (own := [("_law_num", 4)]) rfl sc_law_full_right.nd (dim_of (di_range2 rfl (n_range T) (da_cons de_int (da_cons de_int da_nil)))) (blkOk_by (N := N_law_full_right) (sc := defScope s_law_full_right) (by decide +kernel)) (by decide) (fun _ _ _ _ _ => (dg_name 4 sc_law_full_right.nd)) (fun _ _ _ _ _ => dts_nil) (fun _ _ _ _ _ => (de_tup (da_cons de_str (da_cons (de_var 4) da_nil)))))) (de_own (deo_lc (own := [("_law_num", 4)]) rfl sc_law_full_right.nd (dim_of (di_range2 rfl (n_range T) (da_cons de_int (da_cons de_int da_nil)))) (blkOk_by (N := N_law_full_right) (sc := defScope s_law_full_right) (by decide +kernel)) (by decide) (fun _ _ _ _ _ => (dg_name 4 sc_law_full_right.nd)) (fun _ _ _ _ _ => dts_nil) (fun _ _ _ _ _ => (de_tup (da_cons de_str (da_cons (de_var 4) (da_cons de_str da_nil)))))))) da_nil))) (dss_cons (ds_asg (de_tup (da_cons (de_makeD (fD2_Hand___init__ T) (hr.mono (by decide)) tk (fun _ _ _ _ _ h => h) (da_cons (de_call (f_law_pick T) (hr.mono (by decide)) tk (da_cons (de_var 0) (da_cons (de_lst (da_cons de_str (da_cons de_str (da_cons de_str da_nil)))) da_nil))) (da_cons de_str da_nil))) (da_cons (de_tup (da_cons (de_var 1) (da_cons de_int da_nil))) da_nil))) (dg_tup (n := 2) rfl (lenK (lenK lenN)) (dgs_cons (dg_name 2 sc_law_full_right.nd) (dgs_cons (dg_name 3 sc_law_full_right.nd) dgs_nil)))) (dss_cons (ds_if (dt_cmp (od_ne (hu64 hr)) (de_lst (da_cons (by obtain ⟨fdw, FW, BW⟩ := wd_law_word T; exact de_wordF (k := 6) (ca_law T) FW (g__law_word T) BW sc_law_word hs_law_word (kx_law T) (TBs.at TB (d := ("_law_full_right", none)) (by decide)) hC (by rw [hT]; exact tabs_mem (d := ("_law_full_right", none)) (by decide)) (by rw [hT]; exact tabs_uniq T.c.dj (d := ("_law_full_right", none)) (by decide)) (hr.mono (by decide)) (LamX.lamS_by (sc := defScope s_law_full_right) (by decide +kernel)) (fun A outer s H E fa c' hr tk => (de_call (f_read T) (hr.mono (by decide)) tk (da_cons (de_bin od_add (de_var 1) (de_slice (de_var 1) do_none (do_some de_int))) da_nil))) (fun cdw s H hr => (dss_cons (ds_if (dt_val (de_isiX rfl (n_isinstance T) (pe_glob (v := .ref (He.ga K "BadHand")) rfl (g_BadHand T) rfl) (.own _) (one_clx (xis_ok (g_BadHand T) (x_16 T) (x_15 T)) (one_clx (xis_ok (g_BadLeft T) (x_14 T) (x_13 T)) (one_clx (xis_ok (g_BadLog T) (x_12 T) (x_11 T)) (one_clx (xis_ok (g_BadRecord T) (x_10 T) (x_9 T)) no_clx)))) no_cls (kits_ok (x_8 T)) (de_var 1))) (dss_one (ds_ret (de_lst (da_cons de_str (da_cons (de_fldX (one_flx (fldX_ok (g_BadHand T) (x_16 T) (T.c.z.y.d.fact 38 (f := .noat "BadHand" "part") rfl)) no_flx) (de_var 1)) da_nil))))) dss_nil) (dss_cons (ds_if (dt_val (de_isiX rfl (n_isinstance T) (pe_glob (v := .ref (He.ga K "BadLeft")) rfl (g_BadLeft T) rfl) (.own _) (one_clx (xis_ok (g_BadHand T) (x_16 T) (x_21 T)) (one_clx (xis_ok (g_BadLeft T) (x_14 T) (x_20 T)) (one_clx (xis_ok (g_BadLog T) (x_12 T) (x_19 T)) (one_clx (xis_ok (g_BadRecord T) (x_10 T) (x_18 T)) no_clx)))) no_cls (kits_ok (x_17 T)) (de_var 1))) (dss_one (ds_ret (de_lst (da_cons de_str (da_cons (de_fldX (one_flx (fldX_ok (g_BadLeft T) (x_14 T) (T.c.z.y.d.fact 39 (f := .noat "BadLeft" "left") rfl)) no_flx) (de_var 1)) da_nil))))) dss_nil) (dss_one (ds_ret (de_ifExp (dt_val (de_isiX rfl (n_isinstance T) (pe_glob (v := .ref (He.ga K "BadLog")) rfl (g_BadLog T) rfl) (.own _) (one_clx (xis_ok (g_BadHand T) (x_16 T) (x_26 T)) (one_clx (xis_ok (g_BadLeft T) (x_14 T) (x_25 T)) (one_clx (xis_ok (g_BadLog T) (x_12 T) (x_24 T)) (one_clx (xis_ok (g_BadRecord T) (x_10 T) (x_23 T)) no_clx)))) no_cls (kits_ok (x_22 T)) (de_var 1))) (de_lst (da_cons de_str da_nil)) (de_ifExp (dt_val (de_isiX rfl (n_isinstance T) (pe_glob (v := .ref (He.ga K "BadRecord")) rfl (g_BadRecord T) rfl) (.own _) (one_clx (xis_ok (g_BadHand T) (x_16 T) (x_31 T)) (one_clx (xis_ok (g_BadLeft T) (x_14 T) (x_30 T)) (one_clx (xis_ok (g_BadLog T) (x_12 T) (x_29 T)) (one_clx (xis_ok (g_BadRecord T) (x_10 T) (x_28 T)) no_clx)))) no_cls (kits_ok (x_27 T)) (de_var 1))) (de_lst (da_cons de_str da_nil)) (de_lst (da_cons (de_cmp od_isN (de_var 1) de_non (by rfl)) da_nil))))))))) (fun _ _ _ _ _ => by kernel_rfl)) da_nil)) (de_lst (da_cons (de_lst (da_cons de_str da_nil)) da_nil)) (by rfl)) (dss_one (ds_ret de_bl)) dss_nil) (dss_cons (ds_if (dt_w (dw_or (dt_cmp (od_ne (hu64 hr)) (de_call (f_written T) (hr.mono (by decide)) tk (da_cons (de_var 2) (da_cons (de_var 3) (da_cons (de_tup (da_cons de_str (da_cons de_int (da_cons de_str da_nil)))) da_nil)))) (de_var 3) (by rfl)) (dw_or1 (dt_cmp (od_ne (hu64 hr)) (by obtain ⟨fdw, FW, BW⟩ := wd_law_word T; exact de_wordF (k := 8) (ca_law T) FW (g__law_word T) BW sc_law_word hs_law_word (kx_law T) (TBs.at TB (d := ("_law_full_right", none)) (by decide)) hC (by rw [hT]; exact tabs_mem (d := ("_law_full_right", none)) (by decide)) (by rw [hT]; exact tabs_uniq T.c.dj (d := ("_law_full_right", none)) (by decide)) (hr.mono (by decide)) (LamX.lamS_by (sc := defScope s_law_full_right) (by decide +kernel)) (fun A outer s H E fa c' hr tk => (de_call (f_written T) (hr.mono (by decide)) tk (da_cons (de_var 2) (da_cons (de_var 3) (da_cons (de_tup (da_cons de_str (da_cons de_int (da_cons de_str da_nil)))) da_nil))))) (fun cdw s H hr => (dss_cons (ds_if (dt_val (de_isiX rfl (n_isinstance T) (pe_glob (v := .ref (He.ga K "BadHand")) rfl (g_BadHand T) rfl) (.own _) (one_clx (xis_ok (g_BadHand T) (x_16 T) (x_15 T)) (one_clx (xis_ok (g_BadLeft T) (x_14 T) (x_13 T)) (one_clx (xis_ok (g_BadLog T) (x_12 T) (x_11 T)) (one_clx (xis_ok (g_BadRecord T) (x_10 T) (x_9 T)) no_clx)))) no_cls (kits_ok (x_8 T)) (de_var 1))) (dss_one (ds_ret (de_lst (da_cons de_str (da_cons (de_fldX (one_flx (fldX_ok (g_BadHand T) (x_16 T) (T.c.z.y.d.fact 38 (f := .noat "BadHand" "part") rfl)) no_flx) (de_var 1)) da_nil))))) dss_nil) (dss_cons (ds_if (dt_val (de_isiX rfl (n_isinstance T) (pe_glob (v := .ref (He.ga K "BadLeft")) rfl (g_BadLeft T) rfl) (.own _) (one_clx (xis_ok (g_BadHand T) (x_16 T) (x_21 T)) (one_clx (xis_ok (g_BadLeft T) (x_14 T) (x_20 T)) (one_clx (xis_ok (g_BadLog T) (x_12 T) (x_19 T)) (one_clx (xis_ok (g_BadRecord T) (x_10 T) (x_18 T)) no_clx)))) no_cls (kits_ok (x_17 T)) (de_var 1))) (dss_one (ds_ret (de_lst (da_cons de_str (da_cons (de_fldX (one_flx (fldX_ok (g_BadLeft T) (x_14 T) (T.c.z.y.d.fact 39 (f := .noat "BadLeft" "left") rfl)) no_flx) (de_var 1)) da_nil))))) dss_nil) (dss_one (ds_ret (de_ifExp (dt_val (de_isiX rfl (n_isinstance T) (pe_glob (v := .ref (He.ga K "BadLog")) rfl (g_BadLog T) rfl) (.own _) (one_clx (xis_ok (g_BadHand T) (x_16 T) (x_26 T)) (one_clx (xis_ok (g_BadLeft T) (x_14 T) (x_25 T)) (one_clx (xis_ok (g_BadLog T) (x_12 T) (x_24 T)) (one_clx (xis_ok (g_BadRecord T) (x_10 T) (x_23 T)) no_clx)))) no_cls (kits_ok (x_22 T)) (de_var 1))) (de_lst (da_cons de_str da_nil)) (de_ifExp (dt_val (de_isiX rfl (n_isinstance T) (pe_glob (v := .ref (He.ga K "BadRecord")) rfl (g_BadRecord T) rfl) (.own _) (one_clx (xis_ok (g_BadHand T) (x_16 T) (x_31 T)) (one_clx (xis_ok (g_BadLeft T) (x_14 T) (x_30 T)) (one_clx (xis_ok (g_BadLog T) (x_12 T) (x_29 T)) (one_clx (xis_ok (g_BadRecord T) (x_10 T) (x_28 T)) no_clx)))) no_cls (kits_ok (x_27 T)) (de_var 1))) (de_lst (da_cons de_str da_nil)) (de_lst (da_cons (de_cmp od_isN (de_var 1) de_non (by rfl)) da_nil))))))))) (fun _ _ _ _ _ => by kernel_rfl)) (de_lst (da_cons de_str da_nil)) (by rfl))))) (dss_one (ds_ret de_bl)) dss_nil) (dss_one (ds_ret (de_and (de_cmp (od_eq (hu64 hr)) (de_call (f_read T) (hr.mono (by decide)) tk (da_cons (de_var 1) da_nil)) (de_tup (da_cons de_int (da_cons (de_tup (da_cons de_int (da_cons de_str da_nil))) da_nil))) (by rfl)) (de_one (de_cmp (od_eq (hu64 hr)) (de_call (f_can_leave T) (hr.mono (by decide)) tk (da_cons (de_var 3) da_nil)) (de_own (deo_rng2 rfl rfl (n_list T) rfl (n_range T) de_int de_int)) (by rfl)))))))))))
  exact R
theorem fd_law : ∃ fd, FunD K "law" "law" (defArgs s_law) (defBody s_law) (defScope s_law) [] [] (He.ga K "law") fd := T.c.z.y.d.def_ 34 (d := d_law) rfl
theorem f_law (TB : TBs K tf mg base) {fd : FuncData} (F : FunD K "law" "law" (defArgs s_law) (defBody s_law) (defScope s_law) [] [] (He.ga K "law") fd) : FnOkG P w K mg base (L2.CX P w) 13 (He.ga K "law") fd ["_law_script"] (spLaw K (tabsOf K tf lamN) m_law) := by
  obtain ⟨fdb, FB⟩ := fd_law_begun T
  have GB : FnOk P w K mg base L2.CX0 1 (He.ga K "_law_begun") fdb ["_law_script"] (spB K) := ok_begun T FB
  have bB : Binds K fdb ["_law_script"] [] := FB.bindsN fun _ _ _ _ _ _ us hl => match us, hl with | [_], _ => by kernel_rfl
  have R := @law_ofG (tabsOf K tf lamN) P w K mg base _ _ s_law _ fd N_law 12 b_law _ _ _ F sc_law (by decide) (fun cdv A outer s H E hr tk hp hG hcd hC => by
    exact pss_cons (ps_set (i := 1) sc_law.nd rfl (by first | exact Or.inl rfl | exact Or.inr rfl) (pe_call GB (hr.mono (by decide)) rfl (g__law_begun T) FB.kp bB .nil L2.pass0 (pa_cons (pv 0) pa_nil))) (pss_dl fun dl hT => (dss_cons (ds_for hp rfl (di_range1 rfl (n_range T) (da_cons (de_bin od_add de_int (de_callB (cd_min2 rfl) rfl (n_min T) bb_min (da_cons (de_callB cd_len rfl (n_len T) bb_len (da_cons (de_var 0) da_nil)) (da_cons de_int da_nil)))) da_nil)) (dg_name 2 sc_law.nd) (dss_cons (ds_asg (de_tup (da_cons (de_tup (da_cons (de_tup da_nil) (da_cons de_int da_nil))) (da_cons (de_call (f_law_word_pair T) (hr.mono (by decide)) tk (da_cons (de_var 1) da_nil)) da_nil))) (dg_tup (n := 2) rfl (lenK (lenK lenN)) (dgs_cons (dg_name 3 sc_law.nd) (dgs_cons (dg_name 4 sc_law.nd) dgs_nil)))) (dss_cons (ds_for hp rfl (di_range1 rfl (n_range T) (da_cons (de_call (f_law_take T) (hr.mono (by decide)) tk (da_cons (de_var 1) (da_cons de_int da_nil))) da_nil)) (dg_name 5 sc_law.nd) (dss_cons (ds_set 6 sc_law.nd (de_call (f_law_pick T) (hr.mono (by decide)) tk (da_cons (de_var 1) (da_cons (de_lst (da_cons (de_tup (da_cons de_str (da_cons (de_bin od_add de_int (de_call (f_law_take T) (hr.mono (by decide)) tk (da_cons (de_var 1) (da_cons de_int da_nil)))) da_nil))) (da_cons (de_tup (da_cons de_str (da_cons (de_bin od_add de_int (de_call (f_law_take T) (hr.mono (by decide)) tk (da_cons (de_var 1) (da_cons de_int da_nil)))) (da_cons de_str da_nil)))) da_nil))) da_nil)))) (dss_one (ds_set 3 sc_law.nd (de_call (f_law_noted T) (hr.mono (by decide)) tk (da_cons (de_tup (da_cons de_str (da_cons (de_call (f_law_pick T) (hr.mono (by decide)) tk (da_cons (de_var 1) (da_cons (de_lst (da_cons de_str (da_cons de_str da_nil))) da_nil))) (da_cons de_str da_nil)))) (da_cons (de_var 3) (da_cons (de_var 6) da_nil)))))))) (dss_cons (ds_set 7 sc_law.nd (de_call (f_law_pick T) (hr.mono (by decide)) tk (da_cons (de_var 1) (da_cons (de_bin od_add (de_bin od_mul (de_lst (da_cons (de_make (f_Hand___init__ T) (hr.mono (by decide)) tk (fun _ _ _ _ _ h => h) (da_cons (de_sub (de_var 4) de_int) (da_cons (de_sub (de_var 4) de_int) (da_cons (de_sub (de_var 4) de_int) da_nil)))) da_nil)) de_int) (de_lst (da_cons de_non (da_cons de_str (da_cons (de_var 4) da_nil))))) da_nil)))) (dss_cons (ds_asg (de_tup (da_cons (de_var 3) (da_cons (de_tup (da_cons de_str (da_cons (de_bin od_add de_int (de_call (f_law_take T) (hr.mono (by decide)) tk (da_cons (de_var 1) (da_cons de_int da_nil)))) da_nil))) da_nil))) (dg_tup (n := 2) rfl (lenK (lenK lenN)) (dgs_cons (dg_name 8 sc_law.nd) (dgs_cons (dg_name 6 sc_law.nd) dgs_nil)))) (dss_cons (ds_for hp rfl (di_range1 rfl (n_range T) (da_cons (de_call (f_law_pick T) (hr.mono (by decide)) tk (da_cons (de_var 1) (da_cons (de_lst (da_cons de_int (da_cons de_int (da_cons de_int da_nil)))) da_nil))) da_nil)) (dg_name 9 sc_law.nd) (dss_one (ds_set 8 sc_law.nd (de_call (f_law_bent T) (hr.mono (by decide)) tk (da_cons (de_var 1) (da_cons (de_var 3) da_nil)))))) (dss_cons (ds_set 6 sc_law.nd (de_call (f_law_pick T) (hr.mono (by decide)) tk (da_cons (de_var 1) (da_cons (de_lst (da_cons (de_var 6) (da_cons (de_var 6) (da_cons (de_call (f_law_bent_note T) (hr.mono (by decide)) tk (da_cons (de_var 1) (da_cons (de_var 6) da_nil))) (da_cons (de_tup (da_cons de_str (da_cons (de_bin od_add de_int (de_call (f_law_take T) (hr.mono (by decide)) tk (da_cons (de_var 1) (da_cons de_int da_nil)))) (da_cons de_str da_nil)))) da_nil))))) da_nil)))) (dss_cons (ds_set 10 sc_law.nd (de_lst (da_cons de_bl da_nil))) (dss_cons (ds_if (dt_not (dt_val (de_isi rfl (n_isinstance T) (pe_glob (v := .ref (He.ga K "Hand")) rfl (g_Hand T) rfl) (.own _) (one_cls (isi_ok (g_Hand T) (cl_Hand T) (x_4 T)) no_cls) (kits_ok (x_3 T)) (de_var 7)))) (dss_one (ds_set 10 sc_law.nd (de_lst (da_cons de_str (da_cons de_str da_nil))))) (dss_one (ds_if (dt_not (dt_val (de_call (f_law_is_tape T) (hr.mono (by decide)) tk (da_cons (de_var 8) da_nil)))) (dss_one (ds_set 10 sc_law.nd (de_lst (da_cons de_str da_nil)))) (dss_one (ds_if (dt_w (dw_or (dt_not (dt_val (de_call (f_law_is_note T) (hr.mono (by decide)) tk (da_cons (de_var 6) da_nil)))) (dw_or1 (dt_not (dt_val (de_call (f_law_does_fit T) (hr.mono (by decide)) tk (da_cons (de_sub (de_var 8) de_int) (da_cons (de_var 6) da_nil)))))))) (dss_one (ds_set 10 sc_law.nd (de_lst (da_cons de_str da_nil)))) dss_nil))))) (dss_cons (ds_if (dt_cmp (od_ne (hu64 hr)) (by obtain ⟨fdw, FW, BW⟩ := wd_law_word T; exact de_wordF (k := 8) (ca_law T) FW (g__law_word T) BW sc_law_word hs_law_word (kx_law T) (TBs.at TB (d := ("law", none)) (by decide)) hC (by rw [hT]; exact tabs_mem (d := ("law", none)) (by decide)) (by rw [hT]; exact tabs_uniq T.c.dj (d := ("law", none)) (by decide)) (hr.mono (by decide)) (LamX.lamS_by (sc := defScope s_law) (by decide +kernel)) (fun A outer s H E fa c' hr tk => (de_call (f_written T) (hr.mono (by decide)) tk (da_cons (de_var 7) (da_cons (de_var 8) (da_cons (de_var 6) da_nil))))) (fun cdw s H hr => (dss_cons (ds_if (dt_val (de_isiX rfl (n_isinstance T) (pe_glob (v := .ref (He.ga K "BadHand")) rfl (g_BadHand T) rfl) (.own _) (one_clx (xis_ok (g_BadHand T) (x_16 T) (x_15 T)) (one_clx (xis_ok (g_BadLeft T) (x_14 T) (x_13 T)) (one_clx (xis_ok (g_BadLog T) (x_12 T) (x_11 T)) (one_clx (xis_ok (g_BadRecord T) (x_10 T) (x_9 T)) no_clx)))) no_cls (kits_ok (x_8 T)) (de_var 1))) (dss_one (ds_ret (de_lst (da_cons de_str (da_cons (de_fldX (one_flx (fldX_ok (g_BadHand T) (x_16 T) (T.c.z.y.d.fact 38 (f := .noat "BadHand" "part") rfl)) no_flx) (de_var 1)) da_nil))))) dss_nil) (dss_cons (ds_if (dt_val (de_isiX rfl (n_isinstance T) (pe_glob (v := .ref (He.ga K "BadLeft")) rfl (g_BadLeft T) rfl) (.own _) (one_clx (xis_ok (g_BadHand T) (x_16 T) (x_21 T)) (one_clx (xis_ok (g_BadLeft T) (x_14 T) (x_20 T)) (one_clx (xis_ok (g_BadLog T) (x_12 T) (x_19 T)) (one_clx (xis_ok (g_BadRecord T) (x_10 T) (x_18 T)) no_clx)))) no_cls (kits_ok (x_17 T)) (de_var 1))) (dss_one (ds_ret (de_lst (da_cons de_str (da_cons (de_fldX (one_flx (fldX_ok (g_BadLeft T) (x_14 T) (T.c.z.y.d.fact 39 (f := .noat "BadLeft" "left") rfl)) no_flx) (de_var 1)) da_nil))))) dss_nil) (dss_one (ds_ret (de_ifExp (dt_val (de_isiX rfl (n_isinstance T) (pe_glob (v := .ref (He.ga K "BadLog")) rfl (g_BadLog T) rfl) (.own _) (one_clx (xis_ok (g_BadHand T) (x_16 T) (x_26 T)) (one_clx (xis_ok (g_BadLeft T) (x_14 T) (x_25 T)) (one_clx (xis_ok (g_BadLog T) (x_12 T) (x_24 T)) (one_clx (xis_ok (g_BadRecord T) (x_10 T) (x_23 T)) no_clx)))) no_cls (kits_ok (x_22 T)) (de_var 1))) (de_lst (da_cons de_str da_nil)) (de_ifExp (dt_val (de_isiX rfl (n_isinstance T) (pe_glob (v := .ref (He.ga K "BadRecord")) rfl (g_BadRecord T) rfl) (.own _) (one_clx (xis_ok (g_BadHand T) (x_16 T) (x_31 T)) (one_clx (xis_ok (g_BadLeft T) (x_14 T) (x_30 T)) (one_clx (xis_ok (g_BadLog T) (x_12 T) (x_29 T)) (one_clx (xis_ok (g_BadRecord T) (x_10 T) (x_28 T)) no_clx)))) no_cls (kits_ok (x_27 T)) (de_var 1))) (de_lst (da_cons de_str da_nil)) (de_lst (da_cons (de_cmp od_isN (de_var 1) de_non (by rfl)) da_nil))))))))) (fun _ _ _ _ _ => by kernel_rfl)) (de_var 10) (by rfl)) (dss_one (ds_ret de_bl)) dss_nil) (dss_cons (ds_set 10 sc_law.nd (de_ifExp (dt_val (de_call (f_law_is_tape T) (hr.mono (by decide)) tk (da_cons (de_var 8) da_nil))) (de_lst (da_cons de_bl da_nil)) (de_lst (da_cons de_str da_nil)))) (dss_cons (ds_set 11 sc_law.nd (de_call (f_law_pick T) (hr.mono (by decide)) tk (da_cons (de_var 1) (da_cons (de_lst (da_cons de_non (da_cons (de_un ud_neg de_int) (da_cons de_int (da_cons de_bl (da_cons de_str (da_cons de_int (da_cons de_int (da_cons de_int da_nil))))))))) da_nil)))) (dss_cons (ds_own 12 sc_law.nd (deo_lstD (da_cons (by obtain ⟨fdw, FW, BW⟩ := wd_law_word T; exact de_wordF (k := 8) (ca_law T) FW (g__law_word T) BW sc_law_word hs_law_word (kx_law T) (TBs.at TB (d := ("law", none)) (by decide)) hC (by rw [hT]; exact tabs_mem (d := ("law", none)) (by decide)) (by rw [hT]; exact tabs_uniq T.c.dj (d := ("law", none)) (by decide)) (hr.mono (by decide)) (LamX.lamS_by (sc := defScope s_law) (by decide +kernel)) (fun A outer s H E fa c' hr tk => (de_call (f_can_leave T) (hr.mono (by decide)) tk (da_cons (de_var 8) da_nil))) (fun cdw s H hr => (dss_cons (ds_if (dt_val (de_isiX rfl (n_isinstance T) (pe_glob (v := .ref (He.ga K "BadHand")) rfl (g_BadHand T) rfl) (.own _) (one_clx (xis_ok (g_BadHand T) (x_16 T) (x_15 T)) (one_clx (xis_ok (g_BadLeft T) (x_14 T) (x_13 T)) (one_clx (xis_ok (g_BadLog T) (x_12 T) (x_11 T)) (one_clx (xis_ok (g_BadRecord T) (x_10 T) (x_9 T)) no_clx)))) no_cls (kits_ok (x_8 T)) (de_var 1))) (dss_one (ds_ret (de_lst (da_cons de_str (da_cons (de_fldX (one_flx (fldX_ok (g_BadHand T) (x_16 T) (T.c.z.y.d.fact 38 (f := .noat "BadHand" "part") rfl)) no_flx) (de_var 1)) da_nil))))) dss_nil) (dss_cons (ds_if (dt_val (de_isiX rfl (n_isinstance T) (pe_glob (v := .ref (He.ga K "BadLeft")) rfl (g_BadLeft T) rfl) (.own _) (one_clx (xis_ok (g_BadHand T) (x_16 T) (x_21 T)) (one_clx (xis_ok (g_BadLeft T) (x_14 T) (x_20 T)) (one_clx (xis_ok (g_BadLog T) (x_12 T) (x_19 T)) (one_clx (xis_ok (g_BadRecord T) (x_10 T) (x_18 T)) no_clx)))) no_cls (kits_ok (x_17 T)) (de_var 1))) (dss_one (ds_ret (de_lst (da_cons de_str (da_cons (de_fldX (one_flx (fldX_ok (g_BadLeft T) (x_14 T) (T.c.z.y.d.fact 39 (f := .noat "BadLeft" "left") rfl)) no_flx) (de_var 1)) da_nil))))) dss_nil) (dss_one (ds_ret (de_ifExp (dt_val (de_isiX rfl (n_isinstance T) (pe_glob (v := .ref (He.ga K "BadLog")) rfl (g_BadLog T) rfl) (.own _) (one_clx (xis_ok (g_BadHand T) (x_16 T) (x_26 T)) (one_clx (xis_ok (g_BadLeft T) (x_14 T) (x_25 T)) (one_clx (xis_ok (g_BadLog T) (x_12 T) (x_24 T)) (one_clx (xis_ok (g_BadRecord T) (x_10 T) (x_23 T)) no_clx)))) no_cls (kits_ok (x_22 T)) (de_var 1))) (de_lst (da_cons de_str da_nil)) (de_ifExp (dt_val (de_isiX rfl (n_isinstance T) (pe_glob (v := .ref (He.ga K "BadRecord")) rfl (g_BadRecord T) rfl) (.own _) (one_clx (xis_ok (g_BadHand T) (x_16 T) (x_31 T)) (one_clx (xis_ok (g_BadLeft T) (x_14 T) (x_30 T)) (one_clx (xis_ok (g_BadLog T) (x_12 T) (x_29 T)) (one_clx (xis_ok (g_BadRecord T) (x_10 T) (x_28 T)) no_clx)))) no_cls (kits_ok (x_27 T)) (de_var 1))) (de_lst (da_cons de_str da_nil)) (de_lst (da_cons (de_cmp od_isN (de_var 1) de_non (by rfl)) da_nil))))))))) (fun _ _ _ _ _ => by kernel_rfl)) da_nil))) (dss_cons (ds_append 12 (by obtain ⟨fdw, FW, BW⟩ := wd_law_word T; exact de_wordF (k := 8) (ca_law T) FW (g__law_word T) BW sc_law_word hs_law_word (kx_law T) (TBs.at TB (d := ("law", none)) (by decide)) hC (by rw [hT]; exact tabs_mem (d := ("law", none)) (by decide)) (by rw [hT]; exact tabs_uniq T.c.dj (d := ("law", none)) (by decide)) (hr.mono (by decide)) (LamX.lamS_by (sc := defScope s_law) (by decide +kernel)) (fun A outer s H E fa c' hr tk => (de_call (f_fallen T) (hr.mono (by decide)) tk (da_cons (de_var 8) (da_cons (de_var 11) da_nil)))) (fun cdw s H hr => (dss_cons (ds_if (dt_val (de_isiX rfl (n_isinstance T) (pe_glob (v := .ref (He.ga K "BadHand")) rfl (g_BadHand T) rfl) (.own _) (one_clx (xis_ok (g_BadHand T) (x_16 T) (x_15 T)) (one_clx (xis_ok (g_BadLeft T) (x_14 T) (x_13 T)) (one_clx (xis_ok (g_BadLog T) (x_12 T) (x_11 T)) (one_clx (xis_ok (g_BadRecord T) (x_10 T) (x_9 T)) no_clx)))) no_cls (kits_ok (x_8 T)) (de_var 1))) (dss_one (ds_ret (de_lst (da_cons de_str (da_cons (de_fldX (one_flx (fldX_ok (g_BadHand T) (x_16 T) (T.c.z.y.d.fact 38 (f := .noat "BadHand" "part") rfl)) no_flx) (de_var 1)) da_nil))))) dss_nil) (dss_cons (ds_if (dt_val (de_isiX rfl (n_isinstance T) (pe_glob (v := .ref (He.ga K "BadLeft")) rfl (g_BadLeft T) rfl) (.own _) (one_clx (xis_ok (g_BadHand T) (x_16 T) (x_21 T)) (one_clx (xis_ok (g_BadLeft T) (x_14 T) (x_20 T)) (one_clx (xis_ok (g_BadLog T) (x_12 T) (x_19 T)) (one_clx (xis_ok (g_BadRecord T) (x_10 T) (x_18 T)) no_clx)))) no_cls (kits_ok (x_17 T)) (de_var 1))) (dss_one (ds_ret (de_lst (da_cons de_str (da_cons (de_fldX (one_flx (fldX_ok (g_BadLeft T) (x_14 T) (T.c.z.y.d.fact 39 (f := .noat "BadLeft" "left") rfl)) no_flx) (de_var 1)) da_nil))))) dss_nil) (dss_one (ds_ret (de_ifExp (dt_val (de_isiX rfl (n_isinstance T) (pe_glob (v := .ref (He.ga K "BadLog")) rfl (g_BadLog T) rfl) (.own _) (one_clx (xis_ok (g_BadHand T) (x_16 T) (x_26 T)) (one_clx (xis_ok (g_BadLeft T) (x_14 T) (x_25 T)) (one_clx (xis_ok (g_BadLog T) (x_12 T) (x_24 T)) (one_clx (xis_ok (g_BadRecord T) (x_10 T) (x_23 T)) no_clx)))) no_cls (kits_ok (x_22 T)) (de_var 1))) (de_lst (da_cons de_str da_nil)) (de_ifExp (dt_val (de_isiX rfl (n_isinstance T) (pe_glob (v := .ref (He.ga K "BadRecord")) rfl (g_BadRecord T) rfl) (.own _) (one_clx (xis_ok (g_BadHand T) (x_16 T) (x_31 T)) (one_clx (xis_ok (g_BadLeft T) (x_14 T) (x_30 T)) (one_clx (xis_ok (g_BadLog T) (x_12 T) (x_29 T)) (one_clx (xis_ok (g_BadRecord T) (x_10 T) (x_28 T)) no_clx)))) no_cls (kits_ok (x_27 T)) (de_var 1))) (de_lst (da_cons de_str da_nil)) (de_lst (da_cons (de_cmp od_isN (de_var 1) de_non (by rfl)) da_nil))))))))) (fun _ _ _ _ _ => by kernel_rfl))) (dss_cons (ds_if (dt_w (dw_and (dt_cmp (od_eq (hu64 hr)) (de_var 10) (de_lst (da_cons de_bl da_nil)) (by rfl)) (dw_and1 (dt_w (dw_or (dt_not (dt_val (de_call (f_law_is_number T) (hr.mono (by decide)) tk (da_cons (de_var 11) da_nil)))) (dw_or1 (dt_not (dt_chain (od_leP (hu64 hr)) od_le (de_sub (de_var 8) de_int) (de_var 11) (de_callB cd_len rfl (n_len T) bb_len (da_cons (de_sub (de_var 8) de_int) da_nil)))))))))) (dss_one (ds_set 10 sc_law.nd (de_lst (da_cons (de_lst (da_cons de_bl da_nil)) (da_cons (de_lst (da_cons de_str (da_cons (de_var 11) da_nil))) da_nil))))) (dss_one (ds_set 10 sc_law.nd (de_lst (da_cons (de_var 10) (da_cons (de_var 10) da_nil)))))) (dss_frz 12 (dss_cons (ds_if (dt_cmp od_neS (de_callB (cd_repr hG (hu64 hr)) rfl (n_repr T) bb_repr (da_cons (de_var 12) da_nil)) (de_callB (cd_repr hG (hu64 hr)) rfl (n_repr T) bb_repr (da_cons (de_var 10) da_nil)) (by rfl)) (dss_one (ds_ret de_bl)) dss_nil) (dss_cons (ds_set 13 sc_law.nd (de_ifExp (dt_w (dw_and (dt_val (de_isi rfl (n_isinstance T) (pe_bltn (v := .ty "tuple") rfl (n_tuple T) bb_tuple rfl) (.ty _) no_cls (kits_ok (x_5 T)) (de_var 8))) (dw_and1 (dt_cmp (od_eq (hu64 hr)) (de_callB cd_len rfl (n_len T) bb_len (da_cons (de_var 8) da_nil)) de_int (by rfl))))) (de_sub (de_var 8) de_int) (de_var 8))) (dss_cons (ds_if (dt_cmp (od_ne (hu64 hr)) (by obtain ⟨fdw, FW, BW⟩ := wd_law_word T; exact de_wordF (k := 6) (ca_law T) FW (g__law_word T) BW sc_law_word hs_law_word (kx_law T) (TBs.at TB (d := ("law", none)) (by decide)) hC (by rw [hT]; exact tabs_mem (d := ("law", none)) (by decide)) (by rw [hT]; exact tabs_uniq T.c.dj (d := ("law", none)) (by decide)) (hr.mono (by decide)) (LamX.lamS_by (sc := defScope s_law) (by decide +kernel)) (fun A outer s H E fa c' hr tk => (de_call (f_read T) (hr.mono (by decide)) tk (da_cons (de_var 13) da_nil))) (fun cdw s H hr => (dss_cons (ds_if (dt_val (de_isiX rfl (n_isinstance T) (pe_glob (v := .ref (He.ga K "BadHand")) rfl (g_BadHand T) rfl) (.own _) (one_clx (xis_ok (g_BadHand T) (x_16 T) (x_15 T)) (one_clx (xis_ok (g_BadLeft T) (x_14 T) (x_13 T)) (one_clx (xis_ok (g_BadLog T) (x_12 T) (x_11 T)) (one_clx (xis_ok (g_BadRecord T) (x_10 T) (x_9 T)) no_clx)))) no_cls (kits_ok (x_8 T)) (de_var 1))) (dss_one (ds_ret (de_lst (da_cons de_str (da_cons (de_fldX (one_flx (fldX_ok (g_BadHand T) (x_16 T) (T.c.z.y.d.fact 38 (f := .noat "BadHand" "part") rfl)) no_flx) (de_var 1)) da_nil))))) dss_nil) (dss_cons (ds_if (dt_val (de_isiX rfl (n_isinstance T) (pe_glob (v := .ref (He.ga K "BadLeft")) rfl (g_BadLeft T) rfl) (.own _) (one_clx (xis_ok (g_BadHand T) (x_16 T) (x_21 T)) (one_clx (xis_ok (g_BadLeft T) (x_14 T) (x_20 T)) (one_clx (xis_ok (g_BadLog T) (x_12 T) (x_19 T)) (one_clx (xis_ok (g_BadRecord T) (x_10 T) (x_18 T)) no_clx)))) no_cls (kits_ok (x_17 T)) (de_var 1))) (dss_one (ds_ret (de_lst (da_cons de_str (da_cons (de_fldX (one_flx (fldX_ok (g_BadLeft T) (x_14 T) (T.c.z.y.d.fact 39 (f := .noat "BadLeft" "left") rfl)) no_flx) (de_var 1)) da_nil))))) dss_nil) (dss_one (ds_ret (de_ifExp (dt_val (de_isiX rfl (n_isinstance T) (pe_glob (v := .ref (He.ga K "BadLog")) rfl (g_BadLog T) rfl) (.own _) (one_clx (xis_ok (g_BadHand T) (x_16 T) (x_26 T)) (one_clx (xis_ok (g_BadLeft T) (x_14 T) (x_25 T)) (one_clx (xis_ok (g_BadLog T) (x_12 T) (x_24 T)) (one_clx (xis_ok (g_BadRecord T) (x_10 T) (x_23 T)) no_clx)))) no_cls (kits_ok (x_22 T)) (de_var 1))) (de_lst (da_cons de_str da_nil)) (de_ifExp (dt_val (de_isiX rfl (n_isinstance T) (pe_glob (v := .ref (He.ga K "BadRecord")) rfl (g_BadRecord T) rfl) (.own _) (one_clx (xis_ok (g_BadHand T) (x_16 T) (x_31 T)) (one_clx (xis_ok (g_BadLeft T) (x_14 T) (x_30 T)) (one_clx (xis_ok (g_BadLog T) (x_12 T) (x_29 T)) (one_clx (xis_ok (g_BadRecord T) (x_10 T) (x_28 T)) no_clx)))) no_cls (kits_ok (x_27 T)) (de_var 1))) (de_lst (da_cons de_str da_nil)) (de_lst (da_cons (de_cmp od_isN (de_var 1) de_non (by rfl)) da_nil))))))))) (fun _ _ _ _ _ => by kernel_rfl)) (de_ifExp (dt_val (de_call (f_law_are_notes T) (hr.mono (by decide)) tk (da_cons (de_var 13) da_nil))) (de_lst (da_cons de_bl da_nil)) (de_lst (da_cons de_str da_nil))) (by rfl)) (dss_one (ds_ret de_bl)) dss_nil) (dss_one (ds_if (dt_cmp (od_ne (hu64 hr)) (by obtain ⟨fdw, FW, BW⟩ := wd_law_word T; exact de_wordF (k := 3) (ca_law T) FW (g__law_word T) BW sc_law_word hs_law_word (kx_law T) (TBs.at TB (d := ("law", none)) (by decide)) hC (by rw [hT]; exact tabs_mem (d := ("law", none)) (by decide)) (by rw [hT]; exact tabs_uniq T.c.dj (d := ("law", none)) (by decide)) (hr.mono (by decide)) (LamX.lamS_by (sc := defScope s_law) (by decide +kernel)) (fun A outer s H E fa c' hr tk => (de_call (f_may_forget T) (hr.mono (by decide)) tk (da_cons (de_call (f_law_pick T) (hr.mono (by decide)) tk (da_cons (de_var 1) (da_cons (de_lst (da_cons de_non (da_cons de_int (da_cons (de_var 4) (da_cons de_str da_nil))))) da_nil))) da_nil))) (fun cdw s H hr => (dss_cons (ds_if (dt_val (de_isiX rfl (n_isinstance T) (pe_glob (v := .ref (He.ga K "BadHand")) rfl (g_BadHand T) rfl) (.own _) (one_clx (xis_ok (g_BadHand T) (x_16 T) (x_15 T)) (one_clx (xis_ok (g_BadLeft T) (x_14 T) (x_13 T)) (one_clx (xis_ok (g_BadLog T) (x_12 T) (x_11 T)) (one_clx (xis_ok (g_BadRecord T) (x_10 T) (x_9 T)) no_clx)))) no_cls (kits_ok (x_8 T)) (de_var 1))) (dss_one (ds_ret (de_lst (da_cons de_str (da_cons (de_fldX (one_flx (fldX_ok (g_BadHand T) (x_16 T) (T.c.z.y.d.fact 38 (f := .noat "BadHand" "part") rfl)) no_flx) (de_var 1)) da_nil))))) dss_nil) (dss_cons (ds_if (dt_val (de_isiX rfl (n_isinstance T) (pe_glob (v := .ref (He.ga K "BadLeft")) rfl (g_BadLeft T) rfl) (.own _) (one_clx (xis_ok (g_BadHand T) (x_16 T) (x_21 T)) (one_clx (xis_ok (g_BadLeft T) (x_14 T) (x_20 T)) (one_clx (xis_ok (g_BadLog T) (x_12 T) (x_19 T)) (one_clx (xis_ok (g_BadRecord T) (x_10 T) (x_18 T)) no_clx)))) no_cls (kits_ok (x_17 T)) (de_var 1))) (dss_one (ds_ret (de_lst (da_cons de_str (da_cons (de_fldX (one_flx (fldX_ok (g_BadLeft T) (x_14 T) (T.c.z.y.d.fact 39 (f := .noat "BadLeft" "left") rfl)) no_flx) (de_var 1)) da_nil))))) dss_nil) (dss_one (ds_ret (de_ifExp (dt_val (de_isiX rfl (n_isinstance T) (pe_glob (v := .ref (He.ga K "BadLog")) rfl (g_BadLog T) rfl) (.own _) (one_clx (xis_ok (g_BadHand T) (x_16 T) (x_26 T)) (one_clx (xis_ok (g_BadLeft T) (x_14 T) (x_25 T)) (one_clx (xis_ok (g_BadLog T) (x_12 T) (x_24 T)) (one_clx (xis_ok (g_BadRecord T) (x_10 T) (x_23 T)) no_clx)))) no_cls (kits_ok (x_22 T)) (de_var 1))) (de_lst (da_cons de_str da_nil)) (de_ifExp (dt_val (de_isiX rfl (n_isinstance T) (pe_glob (v := .ref (He.ga K "BadRecord")) rfl (g_BadRecord T) rfl) (.own _) (one_clx (xis_ok (g_BadHand T) (x_16 T) (x_31 T)) (one_clx (xis_ok (g_BadLeft T) (x_14 T) (x_30 T)) (one_clx (xis_ok (g_BadLog T) (x_12 T) (x_29 T)) (one_clx (xis_ok (g_BadRecord T) (x_10 T) (x_28 T)) no_clx)))) no_cls (kits_ok (x_27 T)) (de_var 1))) (de_lst (da_cons de_str da_nil)) (de_lst (da_cons (de_cmp od_isN (de_var 1) de_non (by rfl)) da_nil))))))))) (fun _ _ _ _ _ => by kernel_rfl)) (de_lst (da_cons de_str (da_cons de_str da_nil))) (by rfl)) (dss_one (ds_ret de_bl)) dss_nil))))))))))))))))))))) (dss_one (ds_ret (de_or (de_cmp od_gt (de_call (f_law_take T) (hr.mono (by decide)) tk (da_cons (de_var 1) (da_cons de_int da_nil))) de_int (by rfl)) (de_one (de_callG (f_law_full_right T TB) (hr.mono (by decide)) hG hT tk (da_cons (de_var 1) da_nil)))))))))
  exact R
end
def Lw : Prop := ∀ ns : List Int, ns.length ≤ 63 → ∃ s, m_law ns (ds0 ns) = some (.ok (.bl true), s)
end K05
open PySem PySem.W PySem.Calls PyProof.Rows in
set_option maxHeartbeats 0 in
theorem K05.holds_of (lw : K05.Lw) : PySem.Challenge.rw_electkeep_k05_logs_and_records_refused.Holds := by
  w_on; o_law
  refine HandSHeadRun.head_any (r := OpenLaw.row PySem.Challenge.rw_electkeep_k05_logs_and_records_refused) (q := view (OpenLaw.row PySem.Challenge.rw_electkeep_k05_logs_and_records_refused).prog [51]) (H := K05.hk) (ob := K05.ob) (M := 30000) (loose := K05.names) (d := HandSHeadRun.topDef (OpenLaw.row PySem.Challenge.rw_electkeep_k05_logs_and_records_refused).prog 51) (kwd := []) K05.ob_eq
    (by kernel_rfl) (fun s => by kernel_rfl) K05.run (by kernel_rfl) (by kernel_rfl) (by kernel_rfl) (by rfl) (by first | assumption | decide +kernel) (by decide +kernel) ⟨rfl, rfl, rfl, rfl, rfl, by decide +kernel⟩ ?hw ?hc
  case hw => w_witness2
  case hc =>
    refine EK.walk_ofG (l := PySem.Challenge.rw_electkeep_k05_logs_and_records_refused) (n := 63) (k := 13) (x := "_law_script") (CX := L2.CX (PySem.Challenge.rw_electkeep_k05_logs_and_records_refused).prog) rfl (by decide) (by kernel_rfl) ⟨rfl, by decide, by decide⟩ ?F (fun _ _ _ _ _ z => by obtain ⟨_, _, _, _, _, _, _, _, _, _, _, _, h⟩ := z; exact h)
    intro w mg fa h Y G hmg0
    obtain ⟨K, KX, c⟩ := Y
    have hmg : mg ("law" : PySem.Str) = some (.ref fa) := by
      have e : (HandSHeadRun.topDef (OpenLaw.row PySem.Challenge.rw_electkeep_k05_logs_and_records_refused).prog 51).name = ("law" : PySem.Str) := by kernel_rfl
      rw [← e]
      exact hmg0
    have T : K05.Tx h K mg := ⟨c, h, KX, G⟩
    have e := hmg.symm.trans (K05.g_law T)
    cases e
    obtain ⟨fd, F⟩ := K05.fd_law T
    have b := L2.FunD.bindsA (ps := ["_law_script"]) F fun _ _ _ _ _ _ us hl => match us, hl with | [_], _ => by kernel_rfl
    exact ⟨K, fd, K05.tf.map (He.cT K), EK.spLaw K (EK.tabsOf K K05.tf K05.lamN) K05.m_law, KX, fun p hp => by
      obtain ⟨d, hd, rfl⟩ := List.mem_map.mp hp
      exact c.z.empty d hd, fun p hp => by
      obtain ⟨d, hd, rfl⟩ := List.mem_map.mp hp
      exact c.z.out d hd, fun p hp => by
      obtain ⟨d, hd, rfl⟩ := List.mem_map.mp hp
      exact PySem.W.codeHd_of_K KX (c.z.hd d hd), fun s v => b s [v] rfl, fun H a ns hl h1 h2 hS => ⟨a, ns, rfl, EK.tabs_on h1, EK.tabs_on2 h2, hS, hl, lw ns hl, fun _ => rfl⟩, fun base _ _ TB => K05.f_law (w := w) T TB F⟩


namespace EK
open PySem PySem.Spec PyProof.Rows L2 EKL
mutual
def cln : PyData → Bool
  | .none => true
  | .int _ => true
  | .str _ => true
  | .tuple xs => clnAll xs
  | .list xs => clnAll xs
  | _ => false
def clnAll : List PyData → Bool
  | [] => true
  | x :: xs => cln x && clnAll xs
end
mutual
theorem eqv_cln : ∀ (p q : PyData), cln p = true → cln q = true → (PyData.eqv p q = true ↔ p = q)
  | .none, q, _, hq => by cases q <;> simp [PyData.eqv, cln] at *
  | .int i, q, _, hq => by cases q <;> simp [PyData.eqv, cln] at *
  | .str x, q, _, hq => by cases q <;> simp [PyData.eqv, cln] at *
  | .tuple xs, q, hp, hq => by
    cases q with
    | tuple ys =>
      have hp : clnAll xs = true := by simpa [cln] using hp
      have hq : clnAll ys = true := by simpa [cln] using hq
      rw [PyData.eqv, eqvAll_cln xs ys hp hq]
      simp
    | _ => simp [PyData.eqv]
  | .list xs, q, hp, hq => by
    cases q with
    | list ys =>
      have hp : clnAll xs = true := by simpa [cln] using hp
      have hq : clnAll ys = true := by simpa [cln] using hq
      rw [PyData.eqv, eqvAll_cln xs ys hp hq]
      simp
    | _ => simp [PyData.eqv]
  | .bool _, _, hp, _ => by simp [cln] at hp
  | .dict _, _, hp, _ => by simp [cln] at hp
theorem eqvAll_cln : ∀ (ps qs : List PyData), clnAll ps = true → clnAll qs = true → (PyData.eqvAll ps qs = true ↔ ps = qs)
  | [], [], _, _ => by simp [PyData.eqvAll]
  | [], _ :: _, _, _ => by simp [PyData.eqvAll]
  | _ :: _, [], _, _ => by simp [PyData.eqvAll]
  | p :: ps, q :: qs, hp, hq => by
    rw [clnAll, Bool.and_eq_true] at hp hq
    rw [PyData.eqvAll, Bool.and_eq_true, eqv_cln p q hp.1 hq.1, eqvAll_cln ps qs hp.2 hq.2]
    simp
end
mutual
theorem toP_inj : ∀ (a b : D) (p : PyData), toP a = some p → toP b = some p → a = b
  | .non, b, p, ha, hb => by cases ha; cases b <;> simp [toP] at hb ⊢
  | .bl x, b, p, ha, hb => by cases ha; cases b <;> simp [toP] at hb ⊢; exact hb.symm
  | .int x, b, p, ha, hb => by cases ha; cases b <;> simp [toP] at hb ⊢; exact hb.symm
  | .str x, b, p, ha, hb => by cases ha; cases b <;> simp [toP] at hb ⊢; exact hb.symm
  | .tup xs, b, p, ha, hb => by
    rw [toP, Option.map_eq_some_iff] at ha
    obtain ⟨ps, h1, rfl⟩ := ha
    cases b <;> simp [toP] at hb ⊢
    exact toPs_inj xs _ ps h1 hb
  | .lst xs, b, p, ha, hb => by
    rw [toP, Option.map_eq_some_iff] at ha
    obtain ⟨ps, h1, rfl⟩ := ha
    cases b <;> simp [toP] at hb ⊢
    exact toPs_inj xs _ ps h1 hb
  | .obj _ _ _, _, _, ha, _ => by simp [toP] at ha
  | .drw, _, _, ha, _ => by simp [toP] at ha
  | .scr _, _, _, ha, _ => by simp [toP] at ha
  | .dct _ _, _, _, ha, _ => by simp [toP] at ha
  | .dcT _ _, _, _, ha, _ => by simp [toP] at ha
  | .exc _ _ _, _, _, ha, _ => by simp [toP] at ha
theorem toPs_inj : ∀ (xs ys : List D) (ps : List PyData), toPs xs = some ps → toPs ys = some ps → xs = ys
  | [], ys, ps, hx, hy => by
    cases hx
    cases ys with
    | nil => rfl
    | cons y ys =>
      rw [toPs] at hy
      cases h : toP y with
      | none => rw [h] at hy; cases hy
      | some q => rw [h] at hy; simp at hy
  | x :: xs, ys, ps, hx, hy => by
    rw [toPs] at hx
    cases h : toP x with
    | none => rw [h] at hx; cases hx
    | some p =>
      rw [h] at hx
      simp only [Option.bind_some, Option.map_eq_some_iff] at hx
      obtain ⟨qs, h2, rfl⟩ := hx
      cases ys with
      | nil => cases hy
      | cons y ys =>
        rw [toPs] at hy
        cases k : toP y with
        | none => rw [k] at hy; cases hy
        | some q =>
          rw [k] at hy
          simp only [Option.bind_some, Option.map_eq_some_iff, List.cons.injEq] at hy
          obtain ⟨rs, h3, h4, h5⟩ := hy
          subst h4 h5
          rw [toP_inj x y _ h k, toPs_inj xs ys _ h2 h3]
end
/-- clean data of depth n at most -/
def Cl (n : Nat) (d : D) : Prop := ∃ p, toP d = some p ∧ cln p = true ∧ Shp p n
theorem Cl.mono {n k : Nat} {d : D} (h : Cl n d) (l : n ≤ k) : Cl k d := by
  obtain ⟨p, h1, h2, h3⟩ := h
  exact ⟨p, h1, h2, h3.mono l⟩
theorem Cl.int (i : Int) : Cl 0 (.int i) := ⟨_, rfl, rfl, Shp.int i⟩
theorem Cl.non : Cl 0 .non := ⟨_, rfl, rfl, Shp.none⟩
theorem Cl.str {x : Str} (h : PyData.strOk x = true) : Cl 0 (.str x) := ⟨_, rfl, rfl, Shp.str h⟩
theorem Cl.all {n : Nat} : ∀ {ds : List D}, (∀ d ∈ ds, Cl n d) → ∃ ps, toPs ds = some ps ∧ clnAll ps = true ∧ ∀ p ∈ ps, Shp p n
  | [], _ => ⟨[], rfl, rfl, fun _ h => nomatch h⟩
  | d :: ds, h => by
    obtain ⟨p, h1, h2, h3⟩ := h d (.head _)
    obtain ⟨ps, k1, k2, k3⟩ := Cl.all fun x hx => h x (.tail _ hx)
    refine ⟨p :: ps, by rw [toPs, h1, Option.bind_some, k1]; rfl, by rw [clnAll, h2, k2]; rfl, fun q hq => ?_⟩
    rcases List.mem_cons.mp hq with rfl | hq
    · exact h3
    · exact k3 q hq
theorem Cl.tup {n : Nat} {ds : List D} (h : ∀ d ∈ ds, Cl n d) : Cl (n + 1) (.tup ds) := by
  obtain ⟨ps, k1, k2, k3⟩ := Cl.all h
  exact ⟨_, by rw [toP, k1]; rfl, by rw [cln]; exact k2, Shp.tuple k3⟩
theorem Cl.lst {n : Nat} {ds : List D} (h : ∀ d ∈ ds, Cl n d) : Cl (n + 1) (.lst ds) := by
  obtain ⟨ps, k1, k2, k3⟩ := Cl.all h
  exact ⟨_, by rw [toP, k1]; rfl, by rw [cln]; exact k2, Shp.list k3⟩
theorem cl_eqv {n k : Nat} {a b : D} {p q : PyData} (ha : toP a = some p) (hb : toP b = some q) (ca : cln p = true) (cb : cln q = true) : PyData.eqv p q = true ↔ a = b := by
  rw [eqv_cln p q ca cb]
  constructor
  · intro e
    subst e
    exact toP_inj a b p ha hb
  · intro e
    subst e
    rw [ha] at hb
    exact Option.some.inj hb
theorem eqD_cl {n k : Nat} {a b : D} (ha : Cl n a) (hb : Cl k b) {t : Bool} (h : t = true ↔ a = b) (hn : n ≤ 64 := by decide) (hk : k ≤ 64 := by decide) : eqD a b = some (.bl t) := by
  obtain ⟨p, h1, h2, h3⟩ := ha
  obtain ⟨q, k1, k2, k3⟩ := hb
  unfold eqD
  rw [p2_of h1 k1 h3 k3 hn hk]
  congr 2
  rw [Bool.eq_iff_iff, cl_eqv (n := n) (k := k) h1 k1 h2 k2, h]
theorem neD_cl {n k : Nat} {a b : D} (ha : Cl n a) (hb : Cl k b) {t : Bool} (h : t = true ↔ a = b) (hn : n ≤ 64 := by decide) (hk : k ≤ 64 := by decide) : neD a b = some (.bl (!t)) := by
  obtain ⟨p, h1, h2, h3⟩ := ha
  obtain ⟨q, k1, k2, k3⟩ := hb
  unfold neD
  rw [p2_of h1 k1 h3 k3 hn hk]
  congr 3
  rw [Bool.eq_iff_iff, cl_eqv (n := n) (k := k) h1 k1 h2 k2, h]
theorem toPs_mem : ∀ {ds : List D} {ps : List PyData}, toPs ds = some ps → clnAll ps = true → ∀ (a : D) (p : PyData), toP a = some p → cln p = true → ((ps.any fun z => PyData.eqv z p) = true ↔ a ∈ ds)
  | [], ps, h, _, a, p, _, _ => by cases h; simp
  | d :: ds, ps, h, hc, a, p, ha, hp => by
    rw [toPs] at h
    cases e : toP d with
    | none => rw [e] at h; cases h
    | some q =>
      rw [e] at h
      simp only [Option.bind_some, Option.map_eq_some_iff] at h
      obtain ⟨qs, h2, rfl⟩ := h
      rw [clnAll, Bool.and_eq_true] at hc
      rw [List.any_cons, Bool.or_eq_true, cl_eqv (n := 0) (k := 0) e ha hc.1 hp, toPs_mem h2 hc.2 a p ha hp, List.mem_cons]
      exact ⟨fun z => z.imp (·.symm) id, fun z => z.imp (·.symm) id⟩
theorem anyB_cl {n k : Nat} {a : D} {xs : List D} (ha : Cl n a) (hx : ∀ x ∈ xs, Cl k x) {t : Bool} (h : t = true ↔ a ∈ xs) (hn : n ≤ 63) (hk : k ≤ 63) : anyB a (.tup xs) = some t ∧ anyB a (.lst xs) = some t := by
  obtain ⟨p, h1, h2, h3⟩ := ha
  obtain ⟨ps, k1, k2, k3⟩ := Cl.all hx
  have e : t = ps.any fun z => PyData.eqv z p := by rw [Bool.eq_iff_iff, h, toPs_mem k1 k2 a p h1 h2]
  constructor
  · unfold anyB
    rw [h1, Option.bind_some, toP, k1, Option.map_some, Option.bind_some, seqP, Option.bind_some, h3.shaped (by omega), (Shp.tuple k3).shaped (by omega), e]
    rfl
  · unfold anyB
    rw [h1, Option.bind_some, toP, k1, Option.map_some, Option.bind_some, seqP, Option.bind_some, h3.shaped (by omega), (Shp.list k3).shaped (by omega), e]
    rfl
theorem inX_tup {n k : Nat} {a : D} {xs : List D} (ha : Cl n a) (hx : ∀ x ∈ xs, Cl k x) {t : Bool} (h : t = true ↔ a ∈ xs) (hn : n ≤ 63 := by decide) (hk : k ≤ 63 := by decide) : inX a (.tup xs) = some (.bl t) := by
  unfold inX; rw [(anyB_cl ha hx h hn hk).1]; rfl
theorem ninX_tup {n k : Nat} {a : D} {xs : List D} (ha : Cl n a) (hx : ∀ x ∈ xs, Cl k x) {t : Bool} (h : t = true ↔ a ∈ xs) (hn : n ≤ 63 := by decide) (hk : k ≤ 63 := by decide) : ninX a (.tup xs) = some (.bl (!t)) := by
  unfold ninX; rw [(anyB_cl ha hx h hn hk).1]; rfl
theorem ninX_lst {n k : Nat} {a : D} {xs : List D} (ha : Cl n a) (hx : ∀ x ∈ xs, Cl k x) {t : Bool} (h : t = true ↔ a ∈ xs) (hn : n ≤ 63 := by decide) (hk : k ≤ 63 := by decide) : ninX a (.lst xs) = some (.bl (!t)) := by
  unfold ninX; rw [(anyB_cl ha hx h hn hk).2]; rfl
def Rp (w n : Nat) (d : D) : Prop := ∃ p, toP d = some p ∧ Sh p w n
theorem Rp.mono {w n w' n' : Nat} {d : D} (h : Rp w n d) (hw : w ≤ w') (hn : n ≤ n') : Rp w' n' d := by
  obtain ⟨p, h1, h2⟩ := h
  exact ⟨p, h1, h2.mono hw hn⟩
theorem Rp.non : Rp 4 0 .non := ⟨_, rfl, Sh.none⟩
theorem Rp.bl (b : Bool) : Rp 5 0 (.bl b) := ⟨_, rfl, Sh.bool b⟩
theorem Rp.int {i : Int} (h : i.natAbs < 10 ^ 25) : Rp 26 0 (.int i) := ⟨_, rfl, Sh.int h (by decide) (by decide)⟩
theorem Rp.str {x : Str} (h : PyData.strOk x = true) : Rp (10 * x.length + 2) 0 (.str x) := ⟨_, rfl, Sh.str h⟩
theorem Rp.all {w n : Nat} : ∀ {ds : List D}, (∀ d ∈ ds, Rp w n d) → ∃ ps, toPs ds = some ps ∧ ps.length = ds.length ∧ ∀ p ∈ ps, Sh p w n
  | [], _ => ⟨[], rfl, rfl, fun _ h => nomatch h⟩
  | d :: ds, h => by
    obtain ⟨p, h1, h2⟩ := h d (.head _)
    obtain ⟨ps, k1, k2, k3⟩ := Rp.all fun x hx => h x (.tail _ hx)
    refine ⟨p :: ps, by rw [toPs, h1, Option.bind_some, k1]; rfl, by simp [k2], fun q hq => ?_⟩
    rcases List.mem_cons.mp hq with rfl | hq
    · exact h2
    · exact k3 q hq
theorem Rp.tup {w n k : Nat} {ds : List D} (h : ∀ d ∈ ds, Rp w n d) (l : ds.length ≤ k) : Rp (w * k + 2 * k + 3) (n + 1) (.tup ds) := by
  obtain ⟨ps, k1, k2, k3⟩ := Rp.all h
  refine ⟨_, by rw [toP, k1]; rfl, (Sh.tuple k3).mono ?_ (Nat.le_refl _)⟩
  rw [k2]
  have := Nat.mul_le_mul_left w l
  omega
theorem Rp.lst {w n k : Nat} {ds : List D} (h : ∀ d ∈ ds, Rp w n d) (l : ds.length ≤ k) : Rp (w * k + 2 * k + 3) (n + 1) (.lst ds) := by
  obtain ⟨ps, k1, k2, k3⟩ := Rp.all h
  refine ⟨_, by rw [toP, k1]; rfl, (Sh.list k3).mono ?_ (Nat.le_refl _)⟩
  rw [k2]
  have := Nat.mul_le_mul_left w l
  omega
theorem Rp.repr {w n : Nat} {d : D} (h : Rp w n d) (hw : w ≤ 16000000) (hn : n ≤ 60) : ∃ z, reprD [d] = some (.str z) := by
  obtain ⟨p, h1, h2⟩ := h
  exact ⟨_, reprD_of (by rw [toR_eq]; exact h1) h2 hw hn⟩
end EK


namespace EK
open PySem PySem.Spec PyProof.Rows L2 EKL
abbrev S (x : String) : Str := Str.ofString x
theorem ok_promise : PyData.strOk (S "promise") = true := by decide +kernel
theorem ok_entry : PyData.strOk (S "entry") = true := by decide +kernel
theorem ok_forced : PyData.strOk (S "forced") = true := by decide +kernel
theorem ok_none : PyData.strOk (S "none") = true := by decide +kernel
theorem ne_pe : S "promise" ≠ S "entry" := by decide +kernel
theorem ne_ep : S "entry" ≠ S "promise" := by decide +kernel
theorem tup2 {p : D → Prop} {a b : D} (ha : p a) (hb : p b) : ∀ d ∈ [a, b], p d := fun d h => by
  rcases List.mem_cons.mp h with rfl | h
  · exact ha
  · rw [List.mem_singleton.mp h]; exact hb
theorem tup3 {p : D → Prop} {a b c : D} (ha : p a) (hb : p b) (hc : p c) : ∀ d ∈ [a, b, c], p d := fun d h => by
  rcases List.mem_cons.mp h with rfl | h
  · exact ha
  · exact tup2 hb hc d h
/-- a record -/
inductive Note where
  | pr (n : Int) | en (n : Int) (e : Str)
deriving DecidableEq
def Note.term : Note → Int
  | .pr n => n
  | .en n _ => n
def eN : Note → D
  | .pr n => .tup [.str (S "promise"), .int n]
  | .en n e => .tup [.str (S "entry"), .int n, .str e]
/-- as a record must be -/
def NoteOk : Note → Prop
  | .pr n => 1 ≤ n ∧ n ≤ 99
  | .en n e => (1 ≤ n ∧ n ≤ 99) ∧ OkN e
theorem NoteOk.term {r : Note} (h : NoteOk r) : 1 ≤ r.term ∧ r.term ≤ 99 := by
  cases r with
  | pr n => exact h
  | en n e => exact h.1
theorem eN_inj {a b : Note} (h : eN a = eN b) : a = b := by
  cases a <;> cases b <;> simp [eN] at h ⊢
  · exact h
  · exact h
theorem cl_note {r : Note} (h : NoteOk r) : Cl 1 (eN r) := by
  cases r with
  | pr n => exact Cl.tup (tup2 (Cl.str ok_promise) (Cl.int n))
  | en n e => exact Cl.tup (tup3 (Cl.str ok_entry) (Cl.int n) (Cl.str h.2.ok))
theorem ix_note0 (r : Note) : ixD (eN r) (.int 0) = some (.str (match r with | .pr _ => S "promise" | .en _ _ => S "entry")) := by
  cases r <;> rfl
theorem ix_note1 (r : Note) : ixD (eN r) (.int 1) = some (.int r.term) := by
  cases r <;> rfl
theorem ix_note2 (n : Int) (e : Str) : ixD (eN (.en n e)) (.int 2) = some (.str e) := rfl
theorem is_number_int (i : Int) : m_is_number [.int i] = ret (.bl true) := by
  simp! [m_is_number, b_is_number, isiD_int, show List.lookup "int" ([("NoneType", false), ("bool", true), ("int", true), ("str", false), ("tuple", false), ("list", false), ("dict", false)] : List (String × Bool)) = some true from rfl, show List.lookup "int" ([("NoneType", false), ("bool", true), ("int", false), ("str", false), ("tuple", false), ("list", false), ("dict", false)] : List (String × Bool)) = some false from rfl]
theorem is_term_ok {i : Int} (h : 1 ≤ i ∧ i ≤ 99) : m_is_term [.int i] = ret (.bl true) := by
  simp! [m_is_term, b_is_term, is_number_int, h.1, h.2]
def kitT : List (String × Bool) := [("NoneType", false), ("bool", false), ("int", false), ("str", false), ("tuple", true), ("list", false), ("dict", false)]
def kitS : List (String × Bool) := [("NoneType", false), ("bool", false), ("int", false), ("str", true), ("tuple", false), ("list", false), ("dict", false)]
theorem lk_T : List.lookup "tuple" ([("NoneType", false), ("bool", false), ("int", false), ("str", false), ("tuple", true), ("list", false), ("dict", false)] : List (String × Bool)) = some true := rfl
theorem lk_S : List.lookup "str" ([("NoneType", false), ("bool", false), ("int", false), ("str", true), ("tuple", false), ("list", false), ("dict", false)] : List (String × Bool)) = some true := rfl
theorem eq_pp : eqD (.str (S "promise")) (.str (S "promise")) = some (.bl true) := eqD_cl (Cl.str ok_promise) (Cl.str ok_promise) (by simp)
theorem eq_ep : eqD (.str (S "entry")) (.str (S "promise")) = some (.bl false) := eqD_cl (Cl.str ok_entry) (Cl.str ok_promise) (by simp [ne_ep])
theorem eq_pe : eqD (.str (S "promise")) (.str (S "entry")) = some (.bl false) := eqD_cl (Cl.str ok_promise) (Cl.str ok_entry) (by simp [ne_pe])
theorem eq_ee : eqD (.str (S "entry")) (.str (S "entry")) = some (.bl true) := eqD_cl (Cl.str ok_entry) (Cl.str ok_entry) (by simp)
theorem c1 : ((1 : Nat) : Int) = 1 := rfl
theorem c2 : ((2 : Nat) : Int) = 2 := rfl
theorem c3 : ((3 : Nat) : Int) = 3 := rfl
theorem lt22 : ((2 : Int) < 2) = False := by simp
theorem lt32 : ((3 : Int) < 2) = False := by simp
theorem is_pair_ok {n : Int} {e : Str} (h : 1 ≤ n ∧ n ≤ 99) (he : OkN e) : m_is_pair [.tup [.int n, .str e]] = ret (.bl true) := by
  simp! [m_is_pair, b_is_pair, isiD_tup, lk_T, lenD_tup, show ixD (.tup [.int n, .str e]) (.int 0) = some (.int n) from rfl, show ixD (.tup [.int n, .str e]) (.int 1) = some (.str e) from rfl, is_term_ok h, he.nm, c2]
theorem is_record_ok {r : Note} (h : NoteOk r) : m_is_record [eN r] = ret (.bl true) := by
  cases r with
  | pr n =>
    simp! [m_is_record, b_is_record, eN, isiD_tup, isiD_str, lk_T, lk_S, lenD_tup, show ixD (.tup [.str (S "promise"), .int n]) (.int 0) = some (.str (S "promise")) from rfl, show ixD (.tup [.str (S "promise"), .int n]) (.int 1) = some (.int n) from rfl, is_term_ok h, eq_pp, c2, lt22]
  | en n e =>
    simp! [m_is_record, b_is_record, eN, isiD_tup, isiD_str, lk_T, lk_S, lenD_tup, show ixD (.tup [.str (S "entry"), .int n, .str e]) (.int 0) = some (.str (S "entry")) from rfl, List.drop_succ_cons, List.drop_zero, is_pair_ok h.1 h.2, eq_ep, eq_ee, c3, lt32]
end EK


namespace EK
open PySem PySem.Spec PyProof.Rows L2 EKL
def fitP (r o : Note) : Option Bool := match o, r with
  | .en n e, .en m f => if n = m then some (decide (e = f)) else none
  | _, _ => none
def fit2 (o r : Note) : Bool := (fitP r o).getD true
def fitsB (rs : List Note) (r : Note) : Bool := rs.all fun o => fit2 o r
theorem all_fm (g : Note → Option Bool) (rs : List Note) : ((rs.filterMap g).all fun b => b) = rs.all fun o => (g o).getD true := by
  induction rs with
  | nil => rfl
  | cons o rs ih =>
    rw [List.filterMap_cons, List.all_cons, ← ih]
    cases g o with
    | none => simp
    | some b => simp
theorem fits_ok {rs : List Note} {r : Note} (hs : ∀ o ∈ rs, NoteOk o) (h : NoteOk r) : m_fits [.tup (rs.map eN), eN r] = ret (.bl (fitsB rs r)) := by
  simp! [m_fits, b_fits, itemsOf_tup]
  rw [lcM_pure eN (fun o => (fitP r o).map D.bl) rs fun o ho => by
    have O := hs o ho
    have et : eqD (.int o.term) (.int r.term) = some (.bl (decide (o.term = r.term))) := eqD_int _ _
    cases o with
    | pr n =>
      cases r with
      | pr m => simp! [ix_note0, eq_pp, eq_pe, fitP]
      | en m f => simp! [ix_note0, eq_pe, fitP]
    | en n e =>
      cases r with
      | pr m => simp! [ix_note0, eq_ep, fitP]
      | en m f =>
        have es : eqD (.str e) (.str f) = some (.bl (decide (e = f))) := eqD_cl (Cl.str O.2.ok) (Cl.str h.2.ok) (by simp)
        simp! [ix_note0, eq_ee, ix_note1, et, fitP, Note.term, ix_note2, es]
        by_cases z : n = m
        · subst z; simp! [ix_note2, es]
        · simp! [z]]
  simp! []
  have e : (rs.filterMap fun o => (fitP r o).map D.bl) = (rs.filterMap (fitP r)).map fun b => D.bl b := by
    rw [List.map_filterMap]
  have a := allD_map (fun b : Bool => b) (rs.filterMap (fitP r))
  rw [all_fm] at a
  rw [e]
  simp! [a]
  rfl
/-- records as in a log -/
structure RecsOk (rs : List Note) : Prop where
  ok : ∀ r ∈ rs, NoteOk r
  pw : rs.Pairwise fun o r => o ≠ r ∧ fit2 o r = true
theorem RecsOk.nil : RecsOk [] := ⟨fun _ h => (nomatch h), .nil⟩
theorem RecsOk.snoc {rs : List Note} {r : Note} (h : RecsOk rs) (hr : NoteOk r) (hn : r ∉ rs) (hf : fitsB rs r = true) : RecsOk (rs ++ [r]) := by
  refine ⟨fun o ho => ?_, ?_⟩
  · rcases List.mem_append.mp ho with q | q
    · exact h.ok o q
    · rw [List.mem_singleton.mp q]; exact hr
  · refine List.pairwise_append.mpr ⟨h.pw, List.pairwise_singleton _ _, fun o ho q hq => ?_⟩
    rw [List.mem_singleton.mp hq]
    exact ⟨fun z => hn (by rw [← z]; exact ho), List.all_eq_true.mp hf o ho⟩
theorem RecsOk.take {rs : List Note} (h : RecsOk rs) (k : Nat) : RecsOk (rs.take k) := ⟨fun r hr => h.ok r (List.mem_of_mem_take hr), h.pw.sublist (List.take_sublist _ _)⟩
theorem RecsOk.at {rs : List Note} (h : RecsOk rs) {i : Nat} (hi : i < rs.length) : rs[i] ∉ rs.take i ∧ fitsB (rs.take i) rs[i] = true := by
  have key : ∀ o ∈ rs.take i, o ≠ rs[i] ∧ fit2 o rs[i] = true := fun o ho => by
    obtain ⟨j, hj, e⟩ := List.mem_iff_getElem.mp ho
    rw [List.length_take] at hj
    have := List.pairwise_iff_getElem.mp h.pw j i (by omega) hi (by omega)
    rw [List.getElem_take] at e
    rw [← e]; exact this
  exact ⟨fun q => (key _ q).1 rfl, List.all_eq_true.mpr fun o ho => (key o ho).2⟩
theorem note_mem {r : Note} {rs : List Note} : (decide (r ∈ rs) = true) ↔ eN r ∈ rs.map eN := by
  rw [decide_eq_true_eq, List.mem_map]
  constructor
  · exact fun h => ⟨r, h, rfl⟩
  · rintro ⟨q, hq, e⟩
    rw [← eN_inj e]; exact hq
theorem cl_notes {rs : List Note} (h : ∀ r ∈ rs, NoteOk r) : ∀ d ∈ rs.map eN, Cl 1 d := fun d hd => by
  obtain ⟨r, hr, rfl⟩ := List.mem_map.mp hd
  exact cl_note (h r hr)
theorem in_notes {r : Note} {rs : List Note} (hr : NoteOk r) (h : ∀ r ∈ rs, NoteOk r) : inX (eN r) (.tup (rs.map eN)) = some (.bl (decide (r ∈ rs))) := inX_tup (cl_note hr) (cl_notes h) note_mem
theorem nin_notes {r : Note} {rs : List Note} (hr : NoteOk r) (h : ∀ r ∈ rs, NoteOk r) : ninX (eN r) (.tup (rs.map eN)) = some (.bl (!decide (r ∈ rs))) := ninX_tup (cl_note hr) (cl_notes h) note_mem
theorem are_records_ok {rs : List Note} (h : RecsOk rs) : m_are_records [.tup (rs.map eN)] = ret (.bl true) := by
  simp! [m_are_records, b_are_records, isiD_tup, lk_T, itemsOf_tup]
  rw [lcM_map eN (fun _ => .bl true) rs fun r hr => by simp! [is_record_ok (h.ok r hr)]]
  simp! [allD_map, show (rs.all fun _ => true) = true by simp]
  rw [show enumA [.tup (rs.map eN)] = some (rs.zipIdx.map fun p => D.tup [.int (p.2 : Nat), eN p.1]) by
    show some (enumD (rs.map eN)) = _
    unfold enumD
    rw [List.zipIdx_map, List.map_map]
    rfl]
  simp! []
  rw [lcM_map (fun p : Note × Nat => D.tup [.int (p.2 : Nat), eN p.1]) (fun _ => .bl true) rs.zipIdx fun p hp => by
    obtain ⟨r, i⟩ := p
    obtain ⟨hi, e⟩ := List.mk_mem_zipIdx_iff_getElem?.mp hp |> List.getElem?_eq_some_iff.mp
    subst e
    have A := h.at hi
    have T := h.take i
    have ni : ninX (eN rs[i]) (.tup ((rs.take i).map eN)) = some (.bl true) := by
      rw [nin_notes (h.ok _ (List.getElem_mem hi)) T.ok, decide_eq_false A.1]; rfl
    simp! [← List.map_take, ni, fits_ok T.ok (h.ok _ (List.getElem_mem hi)), A.2]]
  simp! [allD_map, show (rs.zipIdx.all fun _ => true) = true by simp]
def eT (t : List Note × Nat) : D := .tup [.tup (t.1.map eN), .int (t.2 : Nat)]
structure LogOk (t : List Note × Nat) : Prop where
  rs : RecsOk t.1
  le : t.2 ≤ t.1.length
theorem ixT0 (t : List Note × Nat) : ixD (eT t) (.int 0) = some (.tup (t.1.map eN)) := rfl
theorem ixT1 (t : List Note × Nat) : ixD (eT t) (.int 1) = some (.int (t.2 : Nat)) := rfl
theorem is_log_ok {t : List Note × Nat} (h : LogOk t) : m_is_log [eT t] = ret (.bl true) := by
  have hl := h.le
  simp! [m_is_log, b_is_log, show isiD [] (fun q => List.lookup q ([("NoneType", false), ("bool", false), ("int", false), ("str", false), ("tuple", true), ("list", false), ("dict", false)] : List (String × Bool))) (eT t) = some (.bl true) from rfl, show lenD [eT t] = some (.int 2) from rfl, ixT0, are_records_ok h.rs, ixT1, is_number_int, lenD_tup, List.length_map]
  simp! [show (0 : Int) ≤ (t.2 : Int) by omega, show (t.2 : Int) ≤ (t.1.length : Int) by omega]
theorem need_log_ok {t : List Note × Nat} (h : LogOk t) : m_need_log [eT t] = ret .non := by
  simp! [m_need_log, b_need_log, is_log_ok h]
end EK


namespace EK
open PySem PySem.Spec PyProof.Rows L2 EKL
def hnd (p e b : Str) : D := .obj (S "Hand") ([S "own_promise", S "own_entry", S "own_back"] : List Str) [.str p, .str e, .str b]
def words3 : List Str := [S "none", S "lazy", S "forced"]
def backs2 : List Str := [S "at once", S "barred"]
theorem words_ok : ∀ w ∈ words3, PyData.strOk w = true := by decide +kernel
theorem lk_skip {f k : Str} {v : D} {l : List (Str × D)} (h : (f == k) = false) : ((k, v) :: l).lookup f = l.lookup f := by simp only [List.lookup, h]
theorem lk_hit {k : Str} {v : D} {l : List (Str × D)} : ((k, v) :: l).lookup k = some v := by simp only [List.lookup, beq_self_eq_true]
theorem fld_gen {c f : Str} {ns : List Str} {xs : List D} {d : D} (h : (ns.zip xs).lookup f = some d) : fldD c f (.obj c ns xs) = some d := by
  show (if c = c then _ else _) = _
  rw [if_pos rfl]; exact h
theorem fld_hp (p e b : Str) : fldD "Hand" "own_promise" (hnd p e b) = some (.str p) := fld_gen lk_hit
theorem fld_he (p e b : Str) : fldD "Hand" "own_entry" (hnd p e b) = some (.str e) := fld_gen ((lk_skip (by decide +kernel)).trans lk_hit)
theorem is_of_ok (w : Str) (ws : Lot) : m_is_of [.str w, eL ws] = ret (.bl (decide (w ∈ ws))) := by
  simp! [m_is_of, b_is_of, isiD_str, lk_S, inD_eL]
theorem isi_hand (b : Bool) (f : String → Option Bool) (x y z : Str) : isiD [("Hand", b)] f (hnd x y z) = some (.bl b) := by
  show (([(S "Hand", b)] : List (Str × Bool)).lookup (S "Hand")).map D.bl = _
  simp [List.lookup]
theorem tupS_w : gTupS ["none", "lazy", "forced"] = fun _ => EK.ret (eL words3) := rfl
theorem tupS_b : gTupS ["at once", "barred"] = fun _ => EK.ret (eL backs2) := rfl
theorem hand_init {p e b : Str} (hp : p ∈ words3) (he : e ∈ words3) (hb : b ∈ backs2) : m_Hand___init__ [.str p, .str e, .str b] = ret (([S "own_promise", S "own_entry", S "own_back"] : List Str), [.str p, .str e, .str b]) := by
  simp! [m_Hand___init__, b_Hand___init__, tupS_w, tupS_b, forM, is_of_ok, decide_eq_true hp, decide_eq_true he, decide_eq_true hb]
  rfl
def wordN (p e : Str) : Note → Str
  | .pr _ => p
  | .en _ _ => e
def writtenN (p e : Str) (t : List Note × Nat) (r : Note) : List Note × Nat :=
  if wordN p e r = S "none" ∨ r ∈ t.1 then t else (t.1 ++ [r], if wordN p e r = S "forced" then t.1.length + 1 else t.2)
theorem eq_word {w x : Str} (hw : PyData.strOk w = true) (hx : PyData.strOk x = true) : eqD (.str w) (.str x) = some (.bl (decide (w = x))) := eqD_cl (Cl.str hw) (Cl.str hx) (by simp)
theorem word_ok {p e : Str} (hp : p ∈ words3) (he : e ∈ words3) (r : Note) : PyData.strOk (wordN p e r) = true := by
  cases r
  · exact words_ok _ hp
  · exact words_ok _ he
theorem itemsT_eT (t : List Note × Nat) : itemsT (eT t) = some [.tup (t.1.map eN), .int (t.2 : Nat)] := rfl
theorem written_by_ok {p e b : Str} (hp : p ∈ words3) (he : e ∈ words3) {t : List Note × Nat} (h : ∀ r ∈ t.1, NoteOk r) {r : Note} (hr : NoteOk r) (hl : t.1.length < 1000) : m_written_by [hnd p e b, eT t, eN r] = ret (eT (writtenN p e t r)) := by
  have ht : t.1.length + 1 ≤ PySem.sizeLine := by rw [sizeLine_eq]; omega
  cases r with
  | pr n =>
    have hw := words_ok _ hp
    have e1 : eqD (.str p) (.str (S "none")) = some (.bl (decide (p = S "none"))) := eq_word hw ok_none
    have e2 : eqD (.str p) (.str (S "forced")) = some (.bl (decide (p = S "forced"))) := eq_word hw ok_forced
    have hin := in_notes hr h
    unfold writtenN wordN
    simp! [m_written_by, b_written_by, itemsT_eT, ix_note0, eq_pp, fld_hp, fld_he, e1, hin]
    by_cases z : p = S "none"
    · simp! [if_pos z, if_pos (Or.inl z)]
    · by_cases y : Note.pr n ∈ t.1
      · simp! [if_neg z, if_pos y, if_pos (Or.inr y)]
      · simp! [if_neg z, if_neg y, if_neg (fun q : p = S "none" ∨ Note.pr n ∈ t.1 => q.elim z y), itemsTL_tup, List.length_append, List.length_map, ht, lenD_tup, e2]
        by_cases x : p = S "forced"
        · simp! [if_pos x, eT, List.map_append]
          rfl
        · simp! [if_neg x, eT, List.map_append]
  | en n f =>
    have hw := words_ok _ he
    have e1 : eqD (.str e) (.str (S "none")) = some (.bl (decide (e = S "none"))) := eq_word hw ok_none
    have e2 : eqD (.str e) (.str (S "forced")) = some (.bl (decide (e = S "forced"))) := eq_word hw ok_forced
    have hin := in_notes hr h
    unfold writtenN wordN
    simp! [m_written_by, b_written_by, itemsT_eT, ix_note0, eq_ep, fld_hp, fld_he, e1, hin]
    by_cases z : e = S "none"
    · simp! [if_pos z, if_pos (Or.inl z)]
    · by_cases y : Note.en n f ∈ t.1
      · simp! [if_neg z, if_pos y, if_pos (Or.inr y)]
      · simp! [if_neg z, if_neg y, if_neg (fun q : e = S "none" ∨ Note.en n f ∈ t.1 => q.elim z y), itemsTL_tup, List.length_append, List.length_map, ht, lenD_tup, e2]
        by_cases x : e = S "forced"
        · simp! [if_pos x, eT, List.map_append]
          rfl
        · simp! [if_neg x, eT, List.map_append]
end EK


namespace EK
open PySem PySem.Spec PyProof.Rows L2 EKL
theorem written_ok {p e b : Str} (hp : p ∈ words3) (he : e ∈ words3) {t : List Note × Nat} (h : LogOk t) {r : Note} (hr : NoteOk r) (hf : fitsB t.1 r = true) (hl : t.1.length < 1000) : m_written [hnd p e b, eT t, eN r] = ret (eT (writtenN p e t r)) := by
  simp! [m_written, b_written, isi_hand, need_log_ok h, is_record_ok hr, ixT0, fits_ok h.rs.ok hr, hf, written_by_ok hp he h.rs.ok hr hl]
/-- the log behind it is one, too -/
theorem written_log {p e : Str} {t : List Note × Nat} (h : LogOk t) {r : Note} (hr : NoteOk r) (hf : fitsB t.1 r = true) : LogOk (writtenN p e t r) ∧ (writtenN p e t r).1.length ≤ t.1.length + 1 := by
  unfold writtenN
  have hle := h.le
  split
  · exact ⟨h, Nat.le_succ _⟩
  · rename_i z
    refine ⟨⟨h.rs.snoc hr (fun q => z (.inr q)) hf, ?_⟩, by simp⟩
    simp only [List.length_append, List.length_cons, List.length_nil]
    split <;> omega
def lvs (t : List Note × Nat) : List D := upFrom (t.2 : Nat) (t.1.length + 1 - t.2)
theorem asI2_lv {t : List Note × Nat} (h : LogOk t) (hl : t.1.length < 1000) : asI2 [.int (t.2 : Nat), .int ((t.1.length : Int) + 1)] = some (lvs t) := by
  have hle := h.le
  show (if -1000000 ≤ ((t.2 : Nat) : Int) ∧ ((t.2 : Nat) : Int) < 1000000 ∧ -1000000 ≤ ((t.1.length : Int) + 1) ∧ ((t.1.length : Int) + 1) < 1000000 then some (upFrom ((t.2 : Nat) : Int) (((t.1.length : Int) + 1) - ((t.2 : Nat) : Int)).toNat) else none) = _
  rw [if_pos (by omega)]
  unfold lvs
  congr 2
  omega
theorem leavings_ok {t : List Note × Nat} (h : LogOk t) (hl : t.1.length < 1000) : m_leavings [eT t] = ret (.lst (lvs t)) := by
  simp! [m_leavings, b_leavings, ixT0, ixT1, lenD_tup, List.length_map, asI2_lv h hl]
theorem can_leave_ok {t : List Note × Nat} (h : LogOk t) (hl : t.1.length < 1000) : m_can_leave [eT t] = ret (.lst (lvs t)) := by
  simp! [m_can_leave, b_can_leave, need_log_ok h, leavings_ok h hl]
theorem lvs_mem {t : List Note × Nat} (h : LogOk t) {d : D} : d ∈ lvs t ↔ ∃ k : Nat, d = .int k ∧ t.2 ≤ k ∧ k ≤ t.1.length := by
  have hle := h.le
  unfold lvs upFrom
  rw [List.mem_map]
  constructor
  · rintro ⟨i, hi, rfl⟩
    have := List.mem_range.mp hi
    exact ⟨t.2 + i, by push_cast; rfl, by omega, by omega⟩
  · rintro ⟨k, rfl, h1, h2⟩
    exact ⟨k - t.2, List.mem_range.mpr (by omega), by congr 1; omega⟩
theorem cl_lvs (t : List Note × Nat) : ∀ d ∈ lvs t, Cl 0 d := fun d hd => by
  unfold lvs upFrom at hd
  obtain ⟨i, _, rfl⟩ := List.mem_map.mp hd
  exact Cl.int _
theorem sl_to (xs : List D) (k : Nat) : sliceD none (some (k : Int)) (.tup xs) = some (.tup (xs.take k)) := by rw [sliceD_tup, cutL_to]
theorem fallen_ok {t : List Note × Nat} (h : LogOk t) (hl : t.1.length < 1000) {k : Nat} (h1 : t.2 ≤ k) (h2 : k ≤ t.1.length) : m_fallen [eT t, .int (k : Nat)] = ret (eT (t.1.take k, k)) := by
  have ni : ninX (.int (k : Nat)) (.lst (lvs t)) = some (.bl false) := by
    have := ninX_lst (t := true) (Cl.int (k : Nat)) (cl_lvs t) (by simp only [true_iff]; exact (lvs_mem h).mpr ⟨k, rfl, h1, h2⟩)
    exact this
  simp! [m_fallen, b_fallen, need_log_ok h, is_number_int, leavings_ok h hl, ni, ixT0, ← List.map_take, sl_to]
  rfl
def topN (rs : List Note) : Int := rs.foldl (fun m r => if r.term > m then r.term else m) 0
def lastN (rs : List Note) : D := rs.foldl (fun d r => match r with | .en n e => .tup [.int n, .str e] | .pr _ => d) (.tup [])
theorem sl_note (n : Int) (e : Str) : sliceD (some 1) none (eN (.en n e)) = some (.tup [.int n, .str e]) := by
  show some (D.tup (cutL _ _ _)) = _
  rw [cutL_from1]; rfl
theorem read_of_ok {rs : List Note} (h : ∀ r ∈ rs, NoteOk r) : m_read_of [.tup (rs.map eN)] = ret (.tup [.int (topN rs), lastN rs]) := by
  simp! [m_read_of, b_read_of, itemsOf_tup]
  refine forM_bnd eN (fun p G => ∃ u, G = [some (.fz (.tup (rs.map eN))), some (.fz (.int (topN p))), some (.fz (lastN p)), u]) ⟨_, rfl⟩ ?_ ?_
  · rintro p r q e G ⟨u, rfl⟩
    refine ⟨_, [some (.fz (.tup (rs.map eN))), some (.fz (.int (topN (p ++ [r])))), some (.fz (lastN (p ++ [r]))), some (.fz (eN r))], rfl, ?_, ⟨_, rfl⟩⟩
    have em : maxLD [.int (topN p), .int r.term] = some (.int (topN (p ++ [r]))) := by
      unfold topN
      rw [List.foldl_append]
      rfl
    simp! [ix_note1, em, ix_note0]
    cases r with
    | pr n => simp! [eq_pe]; unfold lastN; rw [List.foldl_append]; rfl
    | en n e => simp! [eq_ee, sl_note]; unfold lastN; rw [List.foldl_append]; rfl
  · rintro G ⟨u, rfl⟩
    simp! []
theorem read_ok {rs : List Note} (h : RecsOk rs) : m_read [.tup (rs.map eN)] = ret (.tup [.int (topN rs), lastN rs]) := by
  simp! [m_read, b_read, are_records_ok h, read_of_ok h.ok]
def mfN (p e b : Str) : Lot := if b = S "barred" then [] else (if e = S "forced" then [] else [S "entry"]) ++ (if p = S "forced" then [] else [S "promise"])
end EK


namespace EK
open PySem PySem.Spec PyProof.Rows L2 EKL
theorem okN_of {x : Str} (h : nameB x = true) (ho : PyData.strOk x = true) : OkN x := by
  refine ⟨ho, is_name_ok h, ?_⟩
  unfold nameB at h
  rw [Bool.and_eq_true, decide_eq_true_eq] at h
  exact h.1.2
theorem pick1 {xs : List D} (h0 : xs ≠ []) (h1 : xs.length < 1073741824) : Tr 1 (m_law_pick [.drw, .lst xs]) fun y => y ∈ xs := pick_tr false h0 h1
theorem mul_lst (xs : List D) (n : Nat) (h : xs.length * n ≤ 1000000) (hn : n < 1000) : mulD (.lst xs) (.int (n : Int)) = some (.lst (List.replicate n xs).flatten) := by
  show (if -1000000 ≤ (n : Int) ∧ (n : Int) ≤ 1000000 ∧ xs.length * (n : Int).toNat ≤ sizeLine then some (D.lst (List.replicate (n : Int).toNat xs).flatten) else none) = _
  rw [if_pos (by rw [Int.toNat_natCast]; refine ⟨by omega, by omega, ?_⟩; rw [sizeLine_eq]; omega), Int.toNat_natCast]
theorem mul5 : mulD (.lst [.str (S "at once")]) (.int 5) = some (.lst [.str (S "at once"), .str (S "at once"), .str (S "at once"), .str (S "at once"), .str (S "at once")]) := mul_lst [.str (S "at once")] 5 (by decide) (by decide)
theorem word_pair_tr : Tr 4 (m_law_word_pair [.drw]) fun d => ∃ p e b : Str, d = .tup [.str p, .str e, .str b] ∧ p ∈ words3 ∧ e ∈ words3 ∧ b ∈ backs2 := by
  simp! [m_law_word_pair, b_law_word_pair]
  refine Tr.le (Tr.bnd (take_tr (k := 3) (by omega) (by omega)) (j := 3) fun y ⟨n, e, hn⟩ => ?_) (by decide)
  subst e
  simp! []
  have W : ∀ d ∈ [D.str (S "none"), .str (S "lazy"), .str (S "forced"), .str (S "forced")], ∃ p ∈ words3, d = .str p := fun d hd => by
    simp only [List.mem_cons, List.not_mem_nil, or_false] at hd
    rcases hd with rfl | rfl | rfl | rfl
    · exact ⟨_, .head _, rfl⟩
    · exact ⟨_, .tail _ (.head _), rfl⟩
    · exact ⟨_, .tail _ (.tail _ (.head _)), rfl⟩
    · exact ⟨_, .tail _ (.tail _ (.head _)), rfl⟩
  by_cases z : (n : Int) = 0
  · simp! [if_pos z]
    exact (Tr.ret ⟨_, _, _, rfl, .tail _ (.tail _ (.head _)), .tail _ (.tail _ (.head _)), .head _⟩).le (by decide)
  · simp! [if_neg z]
    refine Tr.le (Tr.bnd (pick1 (by simp) (by simp)) (j := 2) fun d hd => ?_) (by decide)
    obtain ⟨p, hp, rfl⟩ := W d hd
    refine Tr.le (Tr.bnd (pick1 (by simp) (by simp)) (j := 1) fun d hd => ?_) (by decide)
    obtain ⟨e, he, rfl⟩ := W d hd
    rw [mul5, ofO_some, bnd_ret]
    try simp only [bnd_assoc, bnd_ret, ofO_some]
    rw [addD_lst _ _ (by rw [sizeLine_eq]; decide), ofO_some, bnd_ret]
    refine Tr.le (Tr.bnd (pick1 (by simp) (by simp)) (j := 0) fun d hd => ?_) (by decide)
    have : ∃ b ∈ backs2, d = .str b := by
      simp only [List.mem_cons, List.not_mem_nil, or_false, or_self, List.cons_append, List.nil_append] at hd
      rcases hd with rfl | rfl | rfl | rfl | rfl | rfl
      · exact ⟨_, .head _, rfl⟩
      · exact ⟨_, .head _, rfl⟩
      · exact ⟨_, .head _, rfl⟩
      · exact ⟨_, .head _, rfl⟩
      · exact ⟨_, .head _, rfl⟩
      · exact ⟨_, .tail _ (.head _), rfl⟩
    obtain ⟨b, hb, rfl⟩ := this
    exact Tr.ret ⟨p, e, b, rfl, hp, he, hb⟩
def alph : Str := Str.ofString "abcdefghijklmnopqrstuvwxyz"
end EK


namespace EK
open PySem PySem.Spec PyProof.Rows L2 EKL
/-- a dict from names -/
def dG (xs : Lot) (g : Str → D) : D := .dct (xs.map Sum.inr) (xs.map g)
def kvs (f : Str → Int) (xs : Lot) : List (PyData × PyData) := xs.map fun n => (.str n, .int (f n))
end EK


namespace EK
open PySem PySem.Spec PyProof.Rows L2 EKL
end EK


namespace EK
open PySem PySem.Spec PyProof.Rows L2 EKL
abbrev W3 := Str × Str × Str
def gw (w : W3) : D := .tup [.str w.1, .str w.2.1, .str w.2.2]
def gh (w : W3) : D := hnd w.1 w.2.1 w.2.2
def wOk (w : W3) : Prop := w.1 ∈ words3 ∧ w.2.1 ∈ words3 ∧ w.2.2 ∈ backs2
def modes2 : List Str := [S "newest", S "bound"]
structure Bk where
  ms : Lot
  A : List Lot
  B : List Lot
  hw : Str → W3
  md : Str
structure Bk.Ok (b : Bk) : Prop where
  nm : Names b.ms
  fa : FamL b.ms b.A
  fb : FamL b.ms b.B
  a0 : b.A ≠ []
  a1 : ∀ l ∈ b.A, l ≠ []
  b0 : b.B ≠ []
  b1 : ∀ l ∈ b.B, l ≠ []
  w : ∀ n ∈ b.ms, wOk (b.hw n)
  m : b.md ∈ modes2
def sheetKs : List Key := [.inr (S "names"), .inr (S "fists"), .inr (S "elect"), .inr (S "keep"), .inr (S "mode")]
def sheet (b : Bk) : D := .dct sheetKs [.lst (b.ms.map D.str), dG b.ms (fun n => gw (b.hw n)), eLs b.A, eLs b.B, .str b.md]
end EK


namespace EK
open PySem PySem.Spec PyProof.Rows L2 EKL
def bookNs : List Str := [S "own_hands", S "own_machines", S "own_elect", S "own_keep", S "own_takes"]
def book (b : Bk) : D := .obj (S "Book") bookNs [dG b.ms (fun n => gh (b.hw n)), eL b.ms, fam b.ms b.A, fam b.ms b.B, .str b.md]
where
  lk_hit' {k : Str} {t : Bool} : ([(k, t)] : List (Str × Bool)).lookup k = some t := by simp only [List.lookup, beq_self_eq_true]
end EK


namespace EK
open PySem PySem.Spec PyProof.Rows L2 EKL
def sureB (w : W3) : Bool := decide (w.2.2 = S "barred") || (decide (w.1 = S "forced") && decide (w.2.1 = S "forced"))
def firmL (b : Bk) : Lot := b.ms.filter fun n => sureB (b.hw n)
def weakL (b : Bk) (h l : Lot) : Lot := (com h l).filter fun n => !sureB (b.hw n)
def brk (b : Bk) (h l x : Lot) : Bool :=
  if b.md = S "newest" then decide (dif (com h l) x = []) else decide (dif (com h l) x = []) || !(b.B.any fun m => inside (com h m) (dif (com h l) x))
end EK


namespace EK
open PySem PySem.Spec PyProof.Rows L2 EKL
abbrev Tri := Lot × Lot × Lot
def e3 (t : Tri) : D := .tup [eL t.1, eL t.2.1, eL t.2.2]
def e2 (p : Lot × Lot) : D := .tup [eL p.1, eL p.2]
def elL (b : Bk) : List Lot := if b.md = S "newest" then b.A else enoughs b.ms b.A
def prs (b : Bk) : List (Lot × Lot) := (elL b).flatMap fun h => b.B.map fun l => (h, l)
def wk (b : Bk) (k : Nat) (p : Lot × Lot) : List Tri := ((allLots (weakL b p.1 p.2)).filter fun x => decide (x.length = k) && brk b p.1 p.2 x).map fun x => (p.1, p.2, x)
def wkBody : SS := (sIf (bAnd (tB' (g2 eqD (gC lenD (saC (gv 5) sa0)) (gv 1))) (tB' (gCall 4 m_breaks (saC (gv 0) (saC (gv 3) (saC (gv 4) (saC (gv 5) sa0))))))) (sApp 2 (EK.gTup (saC (gv 3) (saC (gv 4) (saC (gv 5) sa0))))) sNil)
theorem forM_first {α : Type} (enc : α → D) (r : α → Option D) (I : Sls → Prop) {a : SG} {b : SS} : ∀ (xs : List α) (G : Sls), I G →
    (∀ x ∈ xs, ∀ G, I G → ∃ G1, a G (enc x) = some G1 ∧ (∀ d, r x = some d → b G1 = ret (.ret d)) ∧ (r x = none → ∃ G2, b G1 = ret (.next G2) ∧ I G2)) →
    (∀ d, xs.findSome? r = some d → forM a b (xs.map enc) G = ret (.ret d)) ∧ (xs.findSome? r = none → ∃ G', forM a b (xs.map enc) G = ret (.next G') ∧ I G')
  | [], G, i, _ => ⟨fun d h => by simp at h, fun _ => ⟨G, rfl, i⟩⟩
  | x :: xs, G, i, H => by
    obtain ⟨G1, h1, h2, h3⟩ := H x (.head _) G i
    rw [List.findSome?_cons]
    cases e : r x with
    | some d =>
      refine ⟨fun d' h => ?_, fun h => by cases h⟩
      cases h
      rw [List.map_cons, forM, h1, ofO_some, bnd_ret, h2 d e, bnd_ret]
    | none =>
      obtain ⟨G2, h4, h5⟩ := h3 e
      obtain ⟨k1, k2⟩ := forM_first enc r I xs G2 h5 fun y hy => H y (.tail _ hy)
      refine ⟨fun d h => ?_, fun h => ?_⟩
      · rw [List.map_cons, forM, h1, ofO_some, bnd_ret, h4, bnd_ret]
        exact k1 d h
      · obtain ⟨G', e1, e2⟩ := k2 h
        refine ⟨G', ?_, e2⟩
        rw [List.map_cons, forM, h1, ofO_some, bnd_ret, h4, bnd_ret]
        exact e1
def fw (b : Bk) : Option Tri := (List.range (b.ms.length + 1)).findSome? fun k => ((prs b).flatMap (wk b k)).head?
def oT : Option Tri → D
  | none => .non
  | some t => e3 t
end EK


namespace EK
open PySem PySem.Spec PyProof.Rows L2 EKL
theorem cl_eL {x : Lot} (h : NOk x) : Cl 1 (eL x) := Cl.tup (n := 0) fun d hd => by
  obtain ⟨n, hn, rfl⟩ := List.mem_map.mp hd
  exact Cl.str (h n hn)
theorem cl_e3 {t : Tri} (h1 : NOk t.1) (h2 : NOk t.2.1) (h3 : NOk t.2.2) : Cl 2 (e3 t) := Cl.tup (n := 1) (tup3 (cl_eL h1) (cl_eL h2) (cl_eL h3))
structure TriOk (b : Bk) (t : Tri) : Prop where
  h : LotOf b.ms t.1
  l : LotOf b.ms t.2.1
  x : LotOf b.ms t.2.2
theorem TriOk.cl {b : Bk} (ok : b.Ok) {t : Tri} (T : TriOk b t) : Cl 2 (e3 t) := cl_e3 (ok.nm.lotok T.h) (ok.nm.lotok T.l) (ok.nm.lotok T.x)
def kitTup (d : D) : Prop := isiD [] (fun t => List.lookup t ([("NoneType", false), ("bool", false), ("int", false), ("str", false), ("tuple", true), ("list", false), ("dict", false)] : List (String × Bool))) d = some (.bl false)
def judge (b : Bk) (t : Tri) : Bool := hol b.A t.1 && (hol b.B t.2.1 && (inside t.2.2 (weakL b t.1 t.2.1) && brk b t.1 t.2.1 t.2.2))
/-- both askers say k of the thing -/
def Same2 (b : Bk) (d : D) (k : Bool) : Prop := m_law_is_due [sheet b, d] = EK.ret (.bl k) ∧ m_is_weakness [book b, d] = EK.ret (.bl k)
def El (b : Bk) (e : D × Bool) : Prop := m_law_is_heap [.lst (b.ms.map D.str), e.1] = EK.ret (.bl e.2) ∧ m_is_lot [eL b.ms, e.1] = EK.ret (.bl e.2)
def strange (ms : Lot) (n : Str) : Option D := if n ∈ ms then none else some (D.int 1)
end EK


namespace EK
open PySem PySem.Spec PyProof.Rows L2 EKL
def stg (e : D × Bool) : Option D := if e.2 = true then none else some (D.int 1)
def oD : Option Nat → D
  | none => .non
  | some k => .int (k : Nat)
def less (o : Option Nat) (k : Nat) : Bool := match o with
  | none => true
  | some j => decide (k < j)
def stp (b : Bk) (h l : Lot) (o : Option Nat) (x : Lot) : Option Nat := if (less o x.length && brk b h l x) = true then some x.length else o
def few (b : Bk) : Option Nat := (enoughs b.ms b.A).foldl (fun o h => b.B.foldl (fun o l => (allLots (weakL b h l)).foldl (stp b h l) o) o) none
def fwBody : SS := (sIf (bAnd (bOr (tB' (g2 isND (gv 1) (fun _ => ret .non))) (tB' (g2 ltI (gC lenD (saC (gv 4) sa0)) (gv 1)))) (tB' (gCall 4 m_law_breaks (saC (gv 0) (saC (gv 2) (saC (gv 3) (saC (gv 4) sa0))))))) (sAsg (gC lenD (saC (gv 4) sa0)) (sgN 1)) sNil)
end EK


namespace EK
open PySem PySem.Spec PyProof.Rows L2 EKL
def trs (b : Bk) : List Tri := (enoughs b.ms b.A).flatMap fun h => b.B.flatMap fun l => (allLots (weakL b h l)).map fun x => (h, l, x)
def tbrk (b : Bk) (t : Tri) : Bool := brk b t.1 t.2.1 t.2.2
end EK


namespace EK
open PySem PySem.Spec PyProof.Rows L2 EKL
def fineB : Option Nat → Option Nat → Bool
  | none, _ => true
  | some _, none => false
  | some k, some f => decide (f < k)
def upW (b : Bk) (n : Str) (w : W3) : Bk := { b with hw := fun m => if m = n then w else b.hw m }
end EK


namespace EK
open PySem PySem.Spec PyProof.Rows L2 EKL
abbrev Pr := Int × Str
def prD (p : Pr) : D := .tup [.int p.1, .str p.2]
def prP (p : Pr) : PyData := .tuple [.int p.1, .str p.2]
def tkD : Option Pr → D
  | none => .tup []
  | some p => prD p
/-- a term and an entry as they should be -/
structure PrOk (p : Pr) : Prop where
  t : 1 ≤ p.1 ∧ p.1 ≤ 99
  n : OkN p.2
def prGe : Pr → Pr → Bool := PySem.W.dataLe true prP
def prLt (p q : Pr) : Bool := PySem.W.dataLt (prP p) (prP q)
def srtP (xs : List Pr) : List Pr := xs.mergeSort prGe
def tlD (h : Lot) (τ : Str → Option Pr) : D := .lst (h.map fun n => .tup [.str n, tkD (τ n)])
def tks (h : Lot) (τ : Str → Option Pr) : List Pr := h.filterMap τ
def agr (h : Lot) (τ : Str → Option Pr) (p : Pr) : Lot := h.filter fun n => match τ n with
  | some q => decide (p.1 ≤ q.1)
  | none => false
def keptB (h : Lot) (τ : Str → Option Pr) (p : Pr) (l : Lot) : Bool := (l.filter fun n => decide (n ∈ h)).all fun n => decide (n ∈ agr h τ p)
def openS (h : Lot) (τ : Str → Option Pr) (p : Pr) (ps : List Pr) (l : Lot) : List Pr := if (!decide (p ∈ ps) && keptB h τ p l) = true then ps ++ [p] else ps
def openP (B : List Lot) (h : Lot) (τ : Str → Option Pr) : List Pr := (srtP (tks h τ)).foldl (fun ps p => B.foldl (openS h τ p) ps) []
structure TelOk (h : Lot) (τ : Str → Option Pr) : Prop where
  nm : NOk h
  len : h.length ≤ 5
  pr : ∀ n ∈ h, ∀ p, τ n = some p → PyData.strOk p.2 = true
theorem mem_tks {h : Lot} {τ : Str → Option Pr} {p : Pr} : p ∈ tks h τ ↔ ∃ n ∈ h, τ n = some p := List.mem_filterMap
theorem TelOk.ok {h : Lot} {τ : Str → Option Pr} (k : TelOk h τ) {p : Pr} (hp : p ∈ tks h τ) : PyData.strOk p.2 = true := by
  obtain ⟨n, hn, e⟩ := mem_tks.mp hp
  exact k.pr n hn p e
def openBody : SS := (sIf (bAnd (tB' (g2O' ninX (gv 4) 2)) (tB' (gC allD (saC (gLO (gLc [7] (gIt (gv 6)) (sgN 7) (tB' (g2 inX (gv 7) (gv 3))) (g2 inX (gv 7) (gv 5)))) sa0)))) (sApp 2 (gv 4)) sNil)
def firstD (ps : List Pr) : D := tkD ps.head?
def bindL (b : Bk) (h : Lot) (τ : Str → Option Pr) : List Pr := if b.md = S "bound" then openP b.B h τ else srtP (tks h τ)
/-- what was told by the machines of a lot that elects, as it should be -/
structure Told (b : Bk) (h : Lot) (τ : Str → Option Pr) : Prop where
  lot : LotOf b.ms h
  en : hol b.A h = true
  pr : ∀ n ∈ h, ∀ p, τ n = some p → PrOk p
  one : ∀ p ∈ tks h τ, ∀ q ∈ tks h τ, p.1 = q.1 → p.2 = q.2
end EK


namespace EK
open PySem PySem.Spec PyProof.Rows L2 EKL
def Bk.tk (b : Bk) (md : Str) : Bk := { b with md := md }
theorem Bk.Ok.tk {b : Bk} (ok : b.Ok) {md : Str} (hm : md ∈ modes2) : (b.tk md).Ok := ⟨ok.nm, ok.fa, ok.fb, ok.a0, ok.a1, ok.b0, ok.b1, ok.w, hm⟩
theorem Tr.forP {α : Type} (n : Nat) (enc : α → D) (I : List α → Sls → Prop) {a : SG} {b : SS} {xs : List α}
    (H : ∀ p x r, xs = p ++ x :: r → ∀ G, I p G → ∃ G1, a G (enc x) = some G1 ∧ Tr n (b G1) fun o => ∃ G2, o = .next G2 ∧ I (p ++ [x]) G2) :
    ∀ (r p : List α) (G : Sls), xs = p ++ r → I p G → Tr (n * r.length) (forM a b (r.map enc) G) fun o => ∃ G', o = .next G' ∧ I xs G'
  | [], p, G, e, h => Tr.ret ⟨G, rfl, by rw [e, List.append_nil]; exact h⟩
  | x :: r, p, G, e, h => by
    obtain ⟨G1, e1, t⟩ := H p x r e G h
    rw [List.map_cons, forM, e1, ofO_some, bnd_ret]
    refine Tr.le (Tr.bnd t fun o ⟨G2, e2, j⟩ => ?_) (show n + n * r.length ≤ _ by rw [List.length_cons, Nat.mul_succ]; omega)
    subst e2
    exact Tr.forP n enc I H r (p ++ [x]) G2 (by rw [e]; simp) j
end EK


namespace EK
open PySem PySem.Spec PyProof.Rows L2 EK EKL
def cxs (ms : Lot) (k : Nat) : List Lot := (allLots ms).filter fun l => decide (k ≤ l.length)
def dF (xs : Lot) (f : Str → Int) : D := dG xs fun n => .int (f n)
def wt (f : Str → Int) (l : Lot) : Int := (l.map f).sum
def wxs (ms : Lot) (f : Str → Int) (q : Int) : List Lot := (allLots ms).filter fun l => decide (q ≤ wt f l)
def inR (f : Str → Int) (xs : Lot) : Prop := ∀ n ∈ xs, 0 ≤ f n ∧ f n ≤ 99
end EK


namespace EK
open PySem PySem.Spec PyProof.Rows L2 EKL
def doesB (b : Bk) (o : Option Nat) (x y : Lot) : Bool := (com x y).any (fun n => decide (n ∈ firmL b)) || match o with
  | some f => decide (f < (com x y).length)
  | none => false
def least1 (xs : List Lot) : List Lot := xs.foldl stepL []
def wideL (b : Bk) (o : Option Nat) (A : List Lot) : List Lot := leastOf ((allLots b.ms).filter fun l => A.all fun a => doesB b o l a)
def frm (b : Bk) (h : Lot) : Bk := h.foldl (fun c n => upW c n (S "forced", S "forced", (c.hw n).2.2)) b
structure FrmOk (b c : Bk) (p : Lot) : Prop where
  ok : c.Ok
  ms : c.ms = b.ms
  A : c.A = b.A
  B : c.B = b.B
  md : c.md = b.md
  w : ∀ n, sureB (c.hw n) = (decide (n ∈ p) || sureB (b.hw n))
end EK


namespace EK
open PySem PySem.Spec PyProof.Rows L2 EKL
/-- no firm machine -/
def nfB (b : Bk) (m : Lot) : Bool := m.all fun n => !sureB (b.hw n)
def Weak (b : Bk) : Prop := ∀ n ∈ b.ms, sureB (b.hw n) = false
end EK


namespace EK
open PySem PySem.Spec PyProof.Rows L2 EKL
def rkD (ks : Lot) (rm : Str → Lot) : D := dG ks fun k => .lst ((rm k).map D.str)
def fullL (ks : Lot) (rm : Str → Lot) (i : Nat) (l : Lot) : Lot := ks.filter fun k => decide (i ≤ ((rm k).filter fun n => decide (n ∈ l)).length)
def rxs (ms ks : Lot) (rm : Str → Lot) (i o : Nat) : List Lot := (allLots ms).filter fun l => decide (o ≤ (fullL ks rm i l).length)
structure RkOk (ms ks : Lot) (rm : Str → Lot) : Prop where
  nm : ∀ k ∈ ks, OkN k
  nd : ks.Nodup
  len : ks.length ≤ 5
  ne : ∀ k ∈ ks, rm k ≠ []
  pm : (ks.flatMap rm).Perm ms
/-- a family as a book wants it -/
structure Fine (ms : Lot) (L : List Lot) : Prop where
  f : FamL ms L
  n0 : L ≠ []
  n1 : ∀ l ∈ L, l ≠ []
end EK


namespace EK
open PySem PySem.Spec PyProof.Rows L2 EKL
end EK


namespace EK
open PySem PySem.Spec PyProof.Rows L2 EKL
end EK


namespace EK
open PySem PySem.Spec PyProof.Rows L2 EKL
def rkT (ks : Lot) (rm : Str → Lot) : D := dG ks fun k => .tup ((rm k).map D.str)
theorem flat_perm (rm : Str → Lot) : ∀ ks : Lot, (ks.flatMap fun k => (rm k).reverse).Perm (ks.flatMap rm)
  | [] => .refl _
  | k :: ks => by
    rw [List.flatMap_cons, List.flatMap_cons]
    exact (List.reverse_perm _).append (flat_perm rm ks)
theorem RkOk.turn {ms ks : Lot} {rm : Str → Lot} (h : RkOk ms ks rm) : RkOk ms ks.reverse fun k => (rm k).reverse :=
  ⟨fun k hk => h.nm k (List.mem_reverse.mp hk), (by unfold List.Nodup; rw [List.pairwise_reverse]; exact h.nd.imp fun z e => z e.symm), by rw [List.length_reverse]; exact h.len, fun k hk z => h.ne k (List.mem_reverse.mp hk) (List.reverse_eq_nil_iff.mp z), by
    refine List.Perm.trans ?_ h.pm
    refine ((List.reverse_perm ks).flatMap_right _).trans ?_
    exact flat_perm rm ks⟩
end EK


namespace EK
open PySem PySem.Spec PyProof.Rows L2 EKL
theorem is_name_gen {x : Str} (hx : x.length ≤ 1000) : m_is_name [.str x] = ret (.bl (nameB x)) := by
  have sz : x.cps.size = x.length := rfl
  simp! [m_is_name, b_is_name, isiD_str, show List.lookup "str" ([("NoneType", false), ("bool", false), ("int", false), ("str", true), ("tuple", false), ("list", false), ("dict", false)] : List (String × Bool)) = some true from rfl]
  rw [show lenD [.str x] = some (.int (x.length : Int)) by
    show ((if x.length ≤ PySem.sizeLine then some x.length else none).map fun (n : Nat) => D.int (n : Int)) = _
    rw [if_pos (by unfold PySem.sizeLine; omega)]
    rfl]
  by_cases z1 : 1 ≤ x.length
  · by_cases z6 : x.length ≤ 6
    · simp! [if_pos (show (1 : Int) ≤ (x.length : Int) by omega), show (x.length : Int) ≤ 6 by omega]
      rw [show itemsOf (.str x) = some (x.cps.toList.map fun c => .str ⟨#[c]⟩) by
        show (if x.cps.size ≤ 1000000 then some (chars x) else none) = _
        rw [if_pos (by omega)]
        rfl]
      simp! []
      rw [lcM_map (fun c : Nat => D.str ⟨#[c]⟩) (fun c => .bl (decide (c ∈ (Str.ofString "abcdefghijklmnopqrstuvwxyz").cps.toList))) x.cps.toList fun c hm => by
        simp! []
        rw [show inD (.str ⟨#[c]⟩) (.str (Str.ofString "abcdefghijklmnopqrstuvwxyz")) = some (.bl (decide (c ∈ (Str.ofString "abcdefghijklmnopqrstuvwxyz").cps.toList))) from rfl]
        simp! []]
      simp! [allD_map]
      rw [nameB, decide_eq_true (⟨z1, z6⟩ : 1 ≤ x.length ∧ x.length ≤ 6), Bool.true_and]
    · simp! [if_pos (show (1 : Int) ≤ (x.length : Int) by omega), show ¬ (x.length : Int) ≤ 6 by omega, decide_false]
      rw [nameB, decide_eq_false (fun h => z6 h.2), Bool.false_and]
  · simp! [if_neg (show ¬ (1 : Int) ≤ (x.length : Int) by omega), show ¬ (1 : Int) ≤ (x.length : Int) by omega, decide_false]
    rw [nameB, decide_eq_false (fun h => z1 h.1), Bool.false_and]
def noMach (d : D) : Prop := m_are_machines [d] = EK.ret (.bl false)
def abc : Lot := [97, 98, 99, 100, 101, 102].map fun c => ⟨#[c]⟩
def noRk (d : D) : Prop := m_are_racks [d] = EK.ret (.bl false)
end EK


set_option maxHeartbeats 2000000
namespace K05
open PySem PySem.Spec PyProof.Rows L2 EK EKL
abbrev kT : String → Option Bool := fun t => List.lookup t ([("NoneType", false), ("bool", false), ("int", false), ("str", false), ("tuple", true), ("list", false), ("dict", false)] : List (String × Bool))
def NotT (d : D) : Prop := isiD [] kT d = some (.bl false)
theorem law_number (d : D) : m_law_is_number [d] = m_is_number [d] := rfl
theorem law_name_gen {x : Str} (hx : x.length ≤ 1000) (ho : PyData.strOk x = true) : m_law_is_name [.str x] = EK.ret (.bl (nameB x)) := by
  have sz : x.cps.size = x.length := rfl
  have hch : ∀ c ∈ x.cps.toList, PyData.strOk ⟨#[c]⟩ = true := fun c hc => by
    have h1 : x.cps.all (fun x => decide (x < 1114112)) = true := ho
    rw [Array.all_eq_true_iff_forall_mem] at h1
    have h2 := h1 c (Array.mem_toList_iff.mp hc)
    show (#[c] : Array Nat).all (fun x => decide (x < 1114112)) = true
    simpa using h2
  simp! [m_law_is_name, b_law_is_name, isiD_str, lk_S]
  rw [show lenD [.str x] = some (.int (x.length : Int)) by
    show ((if x.length ≤ PySem.sizeLine then some x.length else none).map fun (n : Nat) => D.int (n : Int)) = _
    rw [if_pos (by unfold PySem.sizeLine; omega)]
    rfl]
  by_cases z1 : 1 ≤ x.length
  · by_cases z6 : x.length ≤ 6
    · simp! [if_pos (show (1 : Int) ≤ (x.length : Int) by omega), show (x.length : Int) ≤ 6 by omega, show (1 : Int) ≤ (x.length : Int) by omega]
      rw [show itemsOf (.str x) = some (x.cps.toList.map fun c => .str ⟨#[c]⟩) by
        show (if x.cps.size ≤ 1000000 then some (chars x) else none) = _
        rw [if_pos (by omega)]
        rfl]
      simp! []
      rw [lcM_filter (fun c : Nat => D.str ⟨#[c]⟩) (fun c => !decide (c ∈ (Str.ofString "abcdefghijklmnopqrstuvwxyz").cps.toList)) x.cps.toList fun c hm => by
        simp! []
        rw [show ninD (.str ⟨#[c]⟩) (.str (Str.ofString "abcdefghijklmnopqrstuvwxyz")) = some (.bl (!decide (c ∈ (Str.ofString "abcdefghijklmnopqrstuvwxyz").cps.toList))) from rfl]
        simp! []
        cases decide (c ∈ (Str.ofString "abcdefghijklmnopqrstuvwxyz").cps.toList) <;> rfl]
      have e : eqD (.lst ((x.cps.toList.filter fun c => !decide (c ∈ (Str.ofString "abcdefghijklmnopqrstuvwxyz").cps.toList)).map fun c => D.str ⟨#[c]⟩)) (.lst []) = some (.bl (x.cps.toList.all fun c => decide (c ∈ (Str.ofString "abcdefghijklmnopqrstuvwxyz").cps.toList))) := by
        refine eqD_cl (n := 1) (k := 1) (Cl.lst (n := 0) fun d hd => ?_) (Cl.lst (n := 0) fun d hd => by cases hd) ?_
        · obtain ⟨c, hc, rfl⟩ := List.mem_map.mp hd
          exact Cl.str (hch c (List.mem_filter.mp hc).1)
        · rw [D.lst.injEq, List.map_eq_nil_iff, List.filter_eq_nil_iff, List.all_eq_true]
          simp
      simp! [e]
      rw [nameB, decide_eq_true (⟨z1, z6⟩ : 1 ≤ x.length ∧ x.length ≤ 6), Bool.true_and]
    · simp! [if_pos (show (1 : Int) ≤ (x.length : Int) by omega), show (1 : Int) ≤ (x.length : Int) by omega, show ¬ (x.length : Int) ≤ 6 by omega, decide_false]
      rw [nameB, decide_eq_false (fun h => z6 h.2), Bool.false_and]
  · simp! [if_neg (show ¬ (1 : Int) ≤ (x.length : Int) by omega), show ¬ (1 : Int) ≤ (x.length : Int) by omega, decide_false]
    rw [nameB, decide_eq_false (fun h => z1 h.1), Bool.false_and]
structure NB (d : D) (k : Bool) : Prop where
  pg : m_is_record [d] = EK.ret (.bl k)
  lw : m_law_is_note [d] = EK.ret (.bl k)
  ok : k = true → ∃ r, d = eN r ∧ NoteOk r
theorem nb_flat {d : D} (h : NotT d) : NB d false := by
  refine ⟨?_, ?_, fun z => by cases z⟩
  · unfold NotT at h
    simp! [m_is_record, b_is_record, h]
  · unfold NotT at h
    simp! [m_law_is_note, b_law_is_note, h]
theorem nin23 (n : Nat) : ninX (.int (n : Int)) (.tup [.int 2, .int 3]) = some (.bl (!decide (n = 2 ∨ n = 3))) := by
  refine ninX_tup (n := 0) (k := 0) (Cl.int _) (tup2 (Cl.int 2) (Cl.int 3)) ?_
  rw [decide_eq_true_eq, List.mem_cons, List.mem_cons, D.int.injEq, D.int.injEq]
  simp only [List.not_mem_nil, or_false]
  omega
theorem nin_2 : ninX (.int 2) (.tup [.int 2, .int 3]) = some (.bl false) := nin23 2
theorem nin_3 : ninX (.int 3) (.tup [.int 2, .int 3]) = some (.bl false) := nin23 3
theorem e42 : ((4 : Int) = 2) = False := by simp
theorem l42 : ((4 : Int) < 2) = False := by simp
theorem e12 : ((1 : Int) = 2) = False := by simp
theorem e32 : ((3 : Int) = 2) = False := by simp
theorem nb_few {xs : List D} (h : xs.length < 2) : NB (.tup xs) false := by
  refine ⟨?_, ?_, fun z => by cases z⟩
  · simp! [m_is_record, b_is_record, isiD_tup, lk_T, lenD_tup, show ((xs.length : Int) < 2) by omega]
  · simp! [m_law_is_note, b_law_is_note, isiD_tup, lk_T, lenD_tup, nin23, show ¬ (xs.length = 2 ∨ xs.length = 3) by omega, decide_false]
theorem nb_first {x : D} {xs : List D} (h : isiD [] (fun t => List.lookup t kitS) x = some (.bl false)) : NB (.tup (x :: xs)) false := by
  have h' : isiD [] (fun t => List.lookup t ([("NoneType", false), ("bool", false), ("int", false), ("str", true), ("tuple", false), ("list", false), ("dict", false)] : List (String × Bool))) x = some (.bl false) := h
  have i0 : ixD (.tup (x :: xs)) (.int 0) = some x := by
    show atI (x :: xs) 0 = some x
    exact (atI_ofNat (xs := x :: xs) (j := 0) (by simp)).trans rfl
  by_cases l : (x :: xs).length < 2
  · exact nb_few l
  · refine ⟨?_, ?_, fun z => by cases z⟩
    · simp! [m_is_record, b_is_record, isiD_tup, lk_T, lenD_tup, List.length_cons, show ¬ (((xs.length + 1 : Nat) : Int) < 2) by simp at l; omega, i0, h']
    · by_cases l3 : xs.length = 1 ∨ xs.length = 2
      · simp! [m_law_is_note, b_law_is_note, isiD_tup, lk_T, lenD_tup, List.length_cons, nin23, decide_eq_true l3, i0, h']
      · simp! [m_law_is_note, b_law_is_note, isiD_tup, lk_T, lenD_tup, List.length_cons, nin23, decide_eq_false l3]
theorem term_gen (i : Int) : m_is_term [.int i] = EK.ret (.bl (decide (1 ≤ i ∧ i ≤ 99))) := by
  by_cases a : 1 ≤ i
  · by_cases b : i ≤ 99 <;> simp! [m_is_term, b_is_term, is_number_int, a, b, and_self, and_false, decide_true, decide_false]
  · simp! [m_is_term, b_is_term, is_number_int, a, false_and, decide_false]
theorem term_non {v : D} (h : m_is_number [v] = EK.ret (.bl false)) : m_is_term [v] = EK.ret (.bl false) := by
  simp! [m_is_term, b_is_term, h]
theorem nb_two_non {w : Str} (hw : PyData.strOk w = true) {v : D} (h : m_is_number [v] = EK.ret (.bl false)) : NB (.tup [.str w, v]) false := by
  have e1 : eqD (.str w) (.str (Str.ofString "promise")) = some (.bl (decide (w = S "promise"))) := eq_word hw ok_promise
  have e2 : eqD (.str w) (.str (Str.ofString "entry")) = some (.bl (decide (w = S "entry"))) := eq_word hw ok_entry
  have i0 : ixD (.tup [.str w, v]) (.int 0) = some (.str w) := rfl
  have i1 : ixD (.tup [.str w, v]) (.int 1) = some v := rfl
  have sl : sliceD (some 1) none (.tup [.str w, v]) = some (.tup [v]) := rfl
  have pr : m_is_pair [.tup [v]] = EK.ret (.bl false) := by
    simp! [m_is_pair, b_is_pair, isiD_tup, lk_T, show lenD [.tup [v]] = some (.int 1) from rfl, e12, decide_false]
  refine ⟨?_, ?_, fun z => by cases z⟩
  · by_cases a : w = S "promise"
    · simp! [m_is_record, b_is_record, isiD_tup, isiD_str, lk_T, lk_S, lenD_tup, c2, lt22, i0, i1, e1, decide_eq_true a, term_non h]
    · by_cases b : w = S "entry"
      · simp! [m_is_record, b_is_record, isiD_tup, isiD_str, lk_T, lk_S, lenD_tup, c2, lt22, i0, i1, e1, e2, decide_eq_false a, decide_eq_true b, sl, pr]
      · simp! [m_is_record, b_is_record, isiD_tup, isiD_str, lk_T, lk_S, lenD_tup, c2, lt22, i0, i1, e1, e2, decide_eq_false a, decide_eq_false b]
  · have n2 := nin_2
    simp! [m_law_is_note, b_law_is_note, isiD_tup, isiD_str, lk_T, lk_S, lenD_tup, c2, n2, i0, i1, law_number, h]
theorem nb_two {w : Str} (hw : PyData.strOk w = true) (i : Int) : ∃ k, NB (.tup [.str w, .int i]) k := by
  have e1 : eqD (.str w) (.str (Str.ofString "promise")) = some (.bl (decide (w = S "promise"))) := eq_word hw ok_promise
  have e2 : eqD (.str w) (.str (Str.ofString "entry")) = some (.bl (decide (w = S "entry"))) := eq_word hw ok_entry
  have i0 : ixD (.tup [.str w, .int i]) (.int 0) = some (.str w) := rfl
  have i1 : ixD (.tup [.str w, .int i]) (.int 1) = some (.int i) := rfl
  have sl : sliceD (some 1) none (.tup [.str w, .int i]) = some (.tup [.int i]) := rfl
  have pr : m_is_pair [.tup [.int i]] = EK.ret (.bl false) := by
    simp! [m_is_pair, b_is_pair, isiD_tup, lk_T, show lenD [.tup [.int i]] = some (.int 1) from rfl, e12, decide_false]
  have n2 := nin_2
  refine ⟨decide (w = S "promise") && decide (1 ≤ i ∧ i ≤ 99), ?_, ?_, fun z => ?_⟩
  · by_cases a : w = S "promise"
    · simp! [m_is_record, b_is_record, isiD_tup, isiD_str, lk_T, lk_S, lenD_tup, c2, lt22, i0, i1, e1, decide_eq_true a, term_gen, Bool.true_and]
    · by_cases b : w = S "entry"
      · simp! [m_is_record, b_is_record, isiD_tup, isiD_str, lk_T, lk_S, lenD_tup, c2, lt22, i0, i1, e1, e2, decide_eq_false a, decide_eq_true b, sl, pr, Bool.false_and]
      · simp! [m_is_record, b_is_record, isiD_tup, isiD_str, lk_T, lk_S, lenD_tup, c2, lt22, i0, i1, e1, e2, decide_eq_false a, decide_eq_false b, Bool.false_and]
  · by_cases a : 1 ≤ i
    · by_cases b : i ≤ 99
      · simp! [m_law_is_note, b_law_is_note, isiD_tup, isiD_str, lk_T, lk_S, lenD_tup, c2, n2, i0, i1, law_number, is_number_int, a, b, and_self, decide_true, Bool.and_true, e1]
      · simp! [m_law_is_note, b_law_is_note, isiD_tup, isiD_str, lk_T, lk_S, lenD_tup, c2, n2, i0, i1, law_number, is_number_int, a, b, and_false, decide_false, Bool.and_false, e1]
    · simp! [m_law_is_note, b_law_is_note, isiD_tup, isiD_str, lk_T, lk_S, lenD_tup, c2, n2, i0, i1, law_number, is_number_int, a, false_and, decide_false, Bool.and_false, e1]
  · rw [Bool.and_eq_true, decide_eq_true_eq, decide_eq_true_eq] at z
    exact ⟨.pr i, by rw [z.1]; rfl, z.2⟩
theorem nb_three_non {w : Str} (hw : PyData.strOk w = true) {v u : D} (h : m_is_number [v] = EK.ret (.bl false)) : NB (.tup [.str w, v, u]) false := by
  have e1 : eqD (.str w) (.str (Str.ofString "promise")) = some (.bl (decide (w = S "promise"))) := eq_word hw ok_promise
  have e2 : eqD (.str w) (.str (Str.ofString "entry")) = some (.bl (decide (w = S "entry"))) := eq_word hw ok_entry
  have i0 : ixD (.tup [.str w, v, u]) (.int 0) = some (.str w) := rfl
  have i1 : ixD (.tup [.str w, v, u]) (.int 1) = some v := rfl
  have j0 : ixD (.tup [v, u]) (.int 0) = some v := rfl
  have sl : sliceD (some 1) none (.tup [.str w, v, u]) = some (.tup [v, u]) := rfl
  have pr : m_is_pair [.tup [v, u]] = EK.ret (.bl false) := by
    simp! [m_is_pair, b_is_pair, isiD_tup, lk_T, lenD_tup, c2, j0, term_non h]
  have n3 := nin_3
  refine ⟨?_, ?_, fun z => by cases z⟩
  · by_cases a : w = S "promise"
    · simp! [m_is_record, b_is_record, isiD_tup, isiD_str, lk_T, lk_S, lenD_tup, c3, e32, lt32, i0, i1, e1, decide_eq_true a]
    · by_cases b : w = S "entry"
      · simp! [m_is_record, b_is_record, isiD_tup, isiD_str, lk_T, lk_S, lenD_tup, c3, e32, lt32, i0, i1, e1, e2, decide_eq_false a, decide_eq_true b, sl, pr]
      · simp! [m_is_record, b_is_record, isiD_tup, isiD_str, lk_T, lk_S, lenD_tup, c3, e32, lt32, i0, i1, e1, e2, decide_eq_false a, decide_eq_false b]
  · simp! [m_law_is_note, b_law_is_note, isiD_tup, isiD_str, lk_T, lk_S, lenD_tup, c3, e32, n3, i0, i1, law_number, h]
/-- what both say of the last part of a record -/
structure NmB (u : D) (k : Bool) : Prop where
  pg : m_is_name [u] = EK.ret (.bl k)
  lw : m_law_is_name [u] = EK.ret (.bl k)
  ok : k = true → ∃ e, u = .str e ∧ OkN e
theorem nm_str {x : Str} (hx : x.length ≤ 1000) (ho : PyData.strOk x = true) : NmB (.str x) (nameB x) := ⟨is_name_gen hx, law_name_gen hx ho, fun z => ⟨x, rfl, okN_of z ho⟩⟩
theorem nm_int (i : Int) : NmB (.int i) false := ⟨rfl, rfl, fun z => by cases z⟩
theorem nb_three {w : Str} (hw : PyData.strOk w = true) (i : Int) {u : D} {nu : Bool} (hu : NmB u nu) : ∃ k, NB (.tup [.str w, .int i, u]) k := by
  have e1 : eqD (.str w) (.str (Str.ofString "promise")) = some (.bl (decide (w = S "promise"))) := eq_word hw ok_promise
  have e2 : eqD (.str w) (.str (Str.ofString "entry")) = some (.bl (decide (w = S "entry"))) := eq_word hw ok_entry
  have i0 : ixD (.tup [.str w, .int i, u]) (.int 0) = some (.str w) := rfl
  have i1 : ixD (.tup [.str w, .int i, u]) (.int 1) = some (.int i) := rfl
  have i2 : ixD (.tup [.str w, .int i, u]) (.int 2) = some u := rfl
  have j0 : ixD (.tup [.int i, u]) (.int 0) = some (.int i) := rfl
  have j1 : ixD (.tup [.int i, u]) (.int 1) = some u := rfl
  have sl : sliceD (some 1) none (.tup [.str w, .int i, u]) = some (.tup [.int i, u]) := rfl
  have pr : m_is_pair [.tup [.int i, u]] = EK.ret (.bl (decide (1 ≤ i ∧ i ≤ 99) && nu)) := by
    by_cases a : 1 ≤ i ∧ i ≤ 99
    · simp! [m_is_pair, b_is_pair, isiD_tup, lk_T, lenD_tup, c2, j0, j1, term_gen, a, and_self, decide_true, hu.pg, Bool.true_and]
    · simp! [m_is_pair, b_is_pair, isiD_tup, lk_T, lenD_tup, c2, j0, j1, term_gen, a, decide_false, Bool.false_and]
  have n3 := nin_3
  refine ⟨decide (w = S "entry") && (decide (1 ≤ i ∧ i ≤ 99) && nu), ?_, ?_, fun z => ?_⟩
  · by_cases a : w = S "promise"
    · subst a
      simp! [m_is_record, b_is_record, isiD_tup, isiD_str, lk_T, lk_S, lenD_tup, c3, e32, lt32, i0, i1, eq_pp, decide_eq_false ne_pe, Bool.false_and]
    · by_cases b : w = S "entry"
      · simp! [m_is_record, b_is_record, isiD_tup, isiD_str, lk_T, lk_S, lenD_tup, c3, e32, lt32, i0, i1, e1, e2, decide_eq_false a, decide_eq_true b, sl, pr, Bool.true_and]
      · simp! [m_is_record, b_is_record, isiD_tup, isiD_str, lk_T, lk_S, lenD_tup, c3, e32, lt32, i0, i1, e1, e2, decide_eq_false a, decide_eq_false b, Bool.false_and]
  · by_cases a : 1 ≤ i
    · by_cases b : i ≤ 99
      · by_cases c : w = S "entry"
        · simp! [m_law_is_note, b_law_is_note, isiD_tup, isiD_str, lk_T, lk_S, lenD_tup, c3, e32, n3, i0, i1, i2, law_number, is_number_int, a, b, decide_eq_true c, and_self, decide_true, Bool.true_and, e2, hu.lw]
        · simp! [m_law_is_note, b_law_is_note, isiD_tup, isiD_str, lk_T, lk_S, lenD_tup, c3, e32, n3, i0, i1, i2, law_number, is_number_int, a, b, decide_eq_false c, and_self, Bool.false_and, e2]
      · simp! [m_law_is_note, b_law_is_note, isiD_tup, isiD_str, lk_T, lk_S, lenD_tup, c3, e32, n3, i0, i1, law_number, is_number_int, a, b, and_false, decide_false, Bool.false_and, Bool.and_false]
    · simp! [m_law_is_note, b_law_is_note, isiD_tup, isiD_str, lk_T, lk_S, lenD_tup, c3, e32, n3, i0, i1, law_number, is_number_int, a, false_and, decide_false, Bool.false_and, Bool.and_false]
  · rw [Bool.and_eq_true, Bool.and_eq_true, decide_eq_true_eq, decide_eq_true_eq] at z
    obtain ⟨e, rfl, he⟩ := hu.ok z.2.2
    exact ⟨.en i e, by rw [z.1]; rfl, z.2.1, he⟩
theorem nb_four {w : Str} (hw : PyData.strOk w = true) {v u t : D} : NB (.tup [.str w, v, u, t]) false := by
  have e1 : eqD (.str w) (.str (Str.ofString "promise")) = some (.bl (decide (w = S "promise"))) := eq_word hw ok_promise
  have e2 : eqD (.str w) (.str (Str.ofString "entry")) = some (.bl (decide (w = S "entry"))) := eq_word hw ok_entry
  have i0 : ixD (.tup [.str w, v, u, t]) (.int 0) = some (.str w) := rfl
  have sl : sliceD (some 1) none (.tup [.str w, v, u, t]) = some (.tup [v, u, t]) := rfl
  have l4 : lenD [.tup [.str w, v, u, t]] = some (.int 4) := rfl
  have pr : m_is_pair [.tup [v, u, t]] = EK.ret (.bl false) := by
    simp! [m_is_pair, b_is_pair, isiD_tup, lk_T, show lenD [.tup [v, u, t]] = some (.int 3) from rfl, e32]
  have n4 : ninX (.int 4) (.tup [.int 2, .int 3]) = some (.bl true) := nin23 4
  refine ⟨?_, ?_, fun z => by cases z⟩
  · by_cases a : w = S "promise"
    · simp! [m_is_record, b_is_record, isiD_tup, isiD_str, lk_T, lk_S, l4, e42, l42, i0, e1, decide_eq_true a]
    · by_cases b : w = S "entry"
      · simp! [m_is_record, b_is_record, isiD_tup, isiD_str, lk_T, lk_S, l4, e42, l42, i0, e1, e2, decide_eq_false a, decide_eq_true b, sl, pr]
      · simp! [m_is_record, b_is_record, isiD_tup, isiD_str, lk_T, lk_S, l4, e42, l42, i0, e1, e2, decide_eq_false a, decide_eq_false b]
  · simp! [m_law_is_note, b_law_is_note, isiD_tup, isiD_str, lk_T, lk_S, l4, n4]
theorem nb_note {r : Note} (h : NoteOk r) : ∃ k, NB (eN r) k := by
  cases r with
  | pr n => exact nb_two ok_promise n
  | en n e => exact nb_three ok_entry n (nm_str (by have := h.2.len; omega) h.2.ok)
theorem bent_note_tr {r : Note} (h : NoteOk r) : Tr 1 (m_law_bent_note [.drw, eN r]) fun d => ∃ k, NB d k := by
  have ad : ∀ a b : List D, a.length + b.length ≤ 100 → addD (.lst a) (.lst b) = some (.lst (a ++ b)) := fun a b q => addD_lst a b (by rw [sizeLine_eq]; omega)
  obtain ⟨f, y, l1, l2, l3⟩ : ∃ f y, listD [eN r] = some (.lst f) ∧ addD (eN r) (.tup [.int 1]) = some y ∧ (∃ k, NB y k) ∧ ∃ x, sliceD none (some 1) (eN r) = some (.tup [.str x]) := by
    cases r with
    | pr n => exact ⟨_, _, rfl, addD_tup _ _ (by rw [sizeLine_eq]; simp), nb_three ok_promise n (nm_int 1), _, sl_to _ 1⟩
    | en n e => exact ⟨_, _, rfl, addD_tup _ _ (by rw [sizeLine_eq]; simp), ⟨_, nb_four ok_entry⟩, _, sl_to _ 1⟩
  obtain ⟨l3, x, l4⟩ := l3
  simp! [m_law_bent_note, b_law_bent_note, l1, l2, l4]
  rw [ad _ _ (by simp)]
  simp! []
  rw [ad _ _ (by simp)]
  simp! []
  refine Tr.le (Tr.bnd (pick1 (by simp) (by simp)) (j := 0) fun d hd => ?_) (by decide)
  refine Tr.ret ?_
  simp only [List.mem_append, List.mem_cons, List.not_mem_nil, or_false] at hd
  have o1 : PyData.strOk (Str.ofString "Promise") = true := by decide +kernel
  have nm : ∀ s : String, (Str.ofString s).length ≤ 1000 → PyData.strOk (Str.ofString s) = true → ∃ k, NmB (.str (Str.ofString s)) k := fun s h1 h2 => ⟨_, nm_str h1 h2⟩
  have th : ∀ (i : Int) (s : String), (Str.ofString s).length ≤ 1000 → PyData.strOk (Str.ofString s) = true → ∃ k, NB (.tup [.str (Str.ofString "entry"), .int i, .str (Str.ofString s)]) k := fun i s h1 h2 => nb_three ok_entry i (nm_str h1 h2)
  rcases hd with rfl | rfl | rfl | rfl | rfl | rfl | rfl | rfl | rfl | rfl | rfl | rfl | rfl | rfl | rfl | rfl | rfl | rfl | rfl | rfl | rfl | rfl
  · exact ⟨_, nb_flat rfl⟩
  · exact ⟨_, nb_few (by simp)⟩
  · exact ⟨_, nb_flat rfl⟩
  · exact l3
  · exact ⟨_, nb_few (by simp)⟩
  · exact nb_two o1 1
  · exact nb_two ok_promise 0
  · exact nb_two ok_promise 100
  · exact ⟨_, nb_two_non ok_promise rfl⟩
  · exact nb_two ok_entry 3
  · exact th 3 "" (by decide +kernel) (by decide +kernel)
  · exact th 3 "X" (by decide +kernel) (by decide +kernel)
  · exact th 3 "x1" (by decide +kernel) (by decide +kernel)
  · exact th 3 "a b" (by decide +kernel) (by decide +kernel)
  · exact nb_three ok_entry 3 (nm_int 5)
  · exact ⟨_, nb_three_non ok_entry rfl⟩
  · exact ⟨_, nb_flat rfl⟩
  · exact ⟨_, nb_flat rfl⟩
  · exact nb_note h
  · exact nb_two ok_promise 99
  · exact th 1 "abcdef" (by decide +kernel) (by decide +kernel)
  · exact th 1 "abcdefg" (by decide +kernel) (by decide +kernel)
end K05


set_option maxHeartbeats 2000000
namespace K05
open PySem PySem.Spec PyProof.Rows L2 EK EKL
structure RB (d : D) (k : Bool) : Prop where
  pg : m_are_records [d] = EK.ret (.bl k)
  lw : m_law_are_notes [d] = EK.ret (.bl k)
  ok : k = true → ∃ rs, d = .tup (rs.map eN) ∧ RecsOk rs ∧ rs.length < 1000
theorem rb_flat {d : D} (h : NotT d) : RB d false := by
  refine ⟨?_, ?_, fun z => by cases z⟩
  · unfold NotT at h
    simp! [m_are_records, b_are_records, h]
  · unfold NotT at h
    simp! [m_law_are_notes, b_law_are_notes, h]
def isEn : Note → Bool
  | .pr _ => false
  | .en _ _ => true
def badM (r o : Note) : Bool := decide (o = r) || (isEn o && isEn r && decide (o.term = r.term))
theorem bad_fit {r o : Note} : badM r o = !(decide (o ≠ r) && fit2 o r) := by
  cases o with
  | pr n =>
    have : fit2 (.pr n) r = true := by cases r <;> rfl
    rw [this]
    simp [badM, isEn]
  | en n e =>
    cases r with
    | pr m =>
      have : fit2 (.en n e) (.pr m) = true := rfl
      rw [this]
      simp [badM, isEn]
    | en m f =>
      have : fit2 (.en n e) (.en m f) = (if n = m then some (decide (e = f)) else none : Option Bool).getD true := rfl
      rw [this]
      by_cases z : n = m
      · subst z
        by_cases y : e = f
        · subst y; simp [badM, isEn]
        · simp [badM, isEn, y, Note.term]
      · simp [badM, isEn, z, Note.term]
def goodAt (rs : List Note) (p : Note × Nat) : Bool := (rs.take p.2).all fun o => decide (o ≠ p.1) && fit2 o p.1
theorem good_eq (rs : List Note) (r : Note) (i : Nat) : goodAt rs (r, i) = (!decide (r ∈ rs.take i) && fitsB (rs.take i) r) := by
  unfold goodAt fitsB
  generalize rs.take i = t
  induction t with
  | nil => simp
  | cons o t ih =>
    rw [List.all_cons, List.all_cons, ih]
    by_cases a : o = r
    · subst a; simp
    · have : (r ∈ o :: t) ↔ r ∈ t := by
        rw [List.mem_cons]
        exact ⟨fun z => z.elim (fun z => absurd z.symm a) id, .inr⟩
      rw [show decide (r ∈ o :: t) = decide (r ∈ t) by rw [decide_eq_decide]; exact this]
      have q : decide (o ≠ r) = true := decide_eq_true a
      rw [q]
      show (true && fit2 o r && (!decide (r ∈ t) && t.all fun o => fit2 o r)) = (!decide (r ∈ t) && (fit2 o r && t.all fun o => fit2 o r))
      cases fit2 o r <;> cases decide (r ∈ t) <;> rfl
theorem good_bad (rs : List Note) (r : Note) (i : Nat) : goodAt rs (r, i) = !((rs.take i).any fun o => badM r o) := by
  unfold goodAt
  rw [List.not_any_eq_all_not]
  congr 1
  funext o
  rw [bad_fit, Bool.not_not]
theorem recs_of {rs : List Note} (h : ∀ r ∈ rs, NoteOk r) (g : rs.zipIdx.all (goodAt rs) = true) : RecsOk rs := by
  refine ⟨h, ?_⟩
  rw [List.pairwise_iff_getElem]
  intro i j hi hj hij
  have m : (rs[j], j) ∈ rs.zipIdx := List.mk_mem_zipIdx_iff_getElem?.mpr (List.getElem?_eq_getElem hj)
  have q := List.all_eq_true.mp g _ m
  unfold goodAt at q
  have mi : rs[i] ∈ rs.take j := by
    rw [List.mem_iff_getElem]
    exact ⟨i, by rw [List.length_take]; omega, List.getElem_take⟩
  have q2 := List.all_eq_true.mp q _ mi
  rw [Bool.and_eq_true, decide_eq_true_eq] at q2
  exact q2
theorem len_note (r : Note) : lenD [eN r] = some (.int (if isEn r then 3 else 2)) := by cases r <;> rfl
theorem pick_flags {xs : List D} (h : ∀ x ∈ xs, ∃ k, NB x k) : ∃ f : D → Bool, ∀ x ∈ xs, NB x (f x) := by
  have hc : ∀ x, ∃ k, x ∈ xs → NB x k := fun x => by
    by_cases hx : x ∈ xs
    · obtain ⟨k, hk⟩ := h x hx
      exact ⟨k, fun _ => hk⟩
    · exact ⟨false, fun z => absurd z hx⟩
  exact ⟨fun x => Classical.choose (hc x), fun x hx => Classical.choose_spec (hc x) hx⟩
theorem notes_of : ∀ {xs : List D}, (∀ x ∈ xs, ∃ r, x = eN r ∧ NoteOk r) → ∃ rs : List Note, xs = rs.map eN ∧ ∀ r ∈ rs, NoteOk r
  | [], _ => ⟨[], rfl, fun _ q => by cases q⟩
  | x :: xs, h => by
    obtain ⟨r, e, hr⟩ := h x (.head _)
    obtain ⟨rs, e2, h2⟩ := notes_of (xs := xs) fun y hy => h y (.tail _ hy)
    refine ⟨r :: rs, by rw [e, e2]; rfl, fun q hq => ?_⟩
    rcases List.mem_cons.mp hq with rfl | hq
    · exact hr
    · exact h2 q hq
theorem ones_ne {α : Type} (l : List α) : neD (.lst (l.map fun _ => D.int 1)) (.lst []) = some (.bl (!decide (l = []))) := by
  refine neD_cl (n := 1) (k := 1) (Cl.lst (n := 0) fun d hd => ?_) (Cl.lst (n := 0) fun d hd => by cases hd) ?_
  · obtain ⟨_, _, rfl⟩ := List.mem_map.mp hd
    exact Cl.int 1
  · rw [decide_eq_true_eq, D.lst.injEq, List.map_eq_nil_iff]
theorem ones_eq {α : Type} (l : List α) : eqD (.lst (l.map fun _ => D.int 1)) (.lst []) = some (.bl (decide (l = []))) := by
  refine eqD_cl (n := 1) (k := 1) (Cl.lst (n := 0) fun d hd => ?_) (Cl.lst (n := 0) fun d hd => by cases hd) ?_
  · obtain ⟨_, _, rfl⟩ := List.mem_map.mp hd
    exact Cl.int 1
  · rw [decide_eq_true_eq, D.lst.injEq, List.map_eq_nil_iff]
theorem fm_ones {α : Type} (p : α → Bool) (l : List α) : (l.filterMap fun x => if p x = true then some (D.int 1) else none) = (l.filter p).map fun _ => D.int 1 := by
  induction l with
  | nil => rfl
  | cons x l ih =>
    rw [List.filterMap_cons, List.filter_cons]
    cases p x with
    | true => rw [if_pos rfl, if_pos rfl, List.map_cons, ih]
    | false => rw [if_neg (by decide), if_neg (by decide), ih]
theorem fil_nil {α : Type} (p : α → Bool) (l : List α) : decide (l.filter p = []) = !l.any p := by
  rw [Bool.eq_iff_iff, decide_eq_true_eq, List.filter_eq_nil_iff, Bool.not_eq_true', List.any_eq_false]
def loopB : SS := (sIf (tB' (g2 neD (gLO (gLc [3] (gIt (gSl (gv 0) oNone (oSome (gv 1)))) (sgN 3) (bOr (tB' (g2 eqD (gv 3) (gv 2))) (bAnd (tB' (g3 eqD eqD (gC lenD (saC (gv 3) sa0)) (gC lenD (saC (gv 2) sa0)) (fun _ => EK.ret (.int 3)))) (tB' (g2 eqD (g2 ixD (gv 3) (fun _ => EK.ret (.int 1))) (g2 ixD (gv 2) (fun _ => EK.ret (.int 1))))))) (fun _ => EK.ret (.int 1)))) (gLst sa0))) (sRet (fun _ => EK.ret (.bl false))) sNil)
theorem enum_notes (rs : List Note) : enumA [.tup (rs.map eN)] = some (rs.zipIdx.map fun p => D.tup [.int (p.2 : Nat), eN p.1]) := by
  show some (enumD (rs.map eN)) = _
  unfold enumD
  rw [List.zipIdx_map, List.map_map]
  rfl
theorem find_all {α : Type} (p : α → Bool) (d : D) (l : List α) : l.findSome? (fun x => if p x = true then none else some d) = if l.all p = true then none else some d := by
  induction l with
  | nil => rfl
  | cons x l ih =>
    rw [List.findSome?_cons, List.all_cons]
    cases p x with
    | true => rw [if_pos rfl, Bool.true_and]; exact ih
    | false => rw [if_neg (by decide), Bool.false_and, if_neg (by decide)]
theorem nil_ne : neD (.lst []) (.lst []) = some (.bl false) := ones_ne (α := Nat) []
theorem e23 : ((2 : Int) = 3) = False := by simp
theorem eq_notes {o r : Note} (ho : NoteOk o) (hr : NoteOk r) : eqD (eN o) (eN r) = some (.bl (decide (o = r))) := eqD_cl (cl_note ho) (cl_note hr) (by rw [decide_eq_true_eq]; exact ⟨fun h => by rw [h], eN_inj⟩)
theorem not_all_ex {xs : List D} {f : D → Bool} (h : ¬ ∀ x ∈ xs, f x = true) : ∃ x ∈ xs, f x = false := by
  induction xs with
  | nil => exact absurd (fun _ q => by cases q) h
  | cons x xs ih =>
    cases e : f x with
    | false => exact ⟨x, .head _, e⟩
    | true =>
      obtain ⟨y, hy, q⟩ := ih fun z => h fun w hw => by
        rcases List.mem_cons.mp hw with rfl | hw
        · exact e
        · exact z w hw
      exact ⟨y, .tail _ hy, q⟩
theorem bad_step {rs : List Note} (h : ∀ r ∈ rs, NoteOk r) {r : Note} (hr : NoteOk r) (i : Nat) (a3 : Option Sl) :
    loopB [some (.fz (.tup (rs.map eN))), some (.fz (.int (i : Nat))), some (.fz (eN r)), a3] = if goodAt rs (r, i) = true then EK.ret (.next [some (.fz (.tup (rs.map eN))), some (.fz (.int (i : Nat))), some (.fz (eN r)), a3]) else EK.ret (.ret (.bl false)) := by
  unfold loopB
  simp! [← List.map_take]
  rw [lcM_pure eN (fun o => if badM r o = true then some (.int 1) else none) (rs.take i) fun o ho => by
    have O := h o (List.mem_of_mem_take ho)
    have e := eq_notes O hr
    have e1 := eqD_int o.term r.term
    by_cases z : o = r
    · subst z
      simp! [e, decide_true, badM, Bool.true_or]
    · have zd : decide (o = r) = false := decide_eq_false z
      simp! [e, zd, badM, Bool.false_or, len_note]
      cases o with
      | pr n => cases r <;> simp! [isEn, eqD_int, e23, decide_false]
      | en n e' =>
        cases r with
        | pr m => simp! [isEn, eqD_int, e32, decide_false]
        | en m f =>
          simp! [isEn, eqD_int, ix_note1, Note.term, decide_true, Bool.true_and]
          by_cases y : n = m <;> simp! [y, decide_true, decide_false]]
  rw [good_bad]
  simp! [fm_ones, ones_ne, fil_nil, Bool.not_not]
  cases (rs.take i).any fun o => badM r o <;> simp! []
theorem rb_notes {rs : List Note} (hl : rs.length < 1000) (h : ∀ r ∈ rs, NoteOk r) (hf : ∀ r ∈ rs, NB (eN r) true) : RB (.tup (rs.map eN)) (rs.zipIdx.all (goodAt rs)) := by
  refine ⟨?_, ?_, fun z => ⟨rs, rfl, recs_of h z, hl⟩⟩
  · simp! [m_are_records, b_are_records, isiD_tup, lk_T, itemsOf_tup]
    rw [lcM_map eN (fun _ => .bl true) rs fun r hr => by simp! [is_record_ok (h r hr)]]
    simp! [allD_map, show (rs.all fun _ => true) = true by simp]
    rw [enum_notes]
    simp! []
    rw [lcM_map (fun p : Note × Nat => D.tup [.int (p.2 : Nat), eN p.1]) (fun p => .bl (goodAt rs p)) rs.zipIdx fun p hp => by
      obtain ⟨r, i⟩ := p
      obtain ⟨hi, e⟩ := List.mk_mem_zipIdx_iff_getElem?.mp hp |> List.getElem?_eq_some_iff.mp
      have hr : NoteOk r := by rw [← e]; exact h _ (List.getElem_mem hi)
      have T : ∀ o ∈ rs.take i, NoteOk o := fun o ho => h o (List.mem_of_mem_take ho)
      have ni := nin_notes hr T
      rw [good_eq]
      simp! [← List.map_take, ni, fits_ok T hr]
      cases decide (r ∈ rs.take i) <;> cases fitsB (rs.take i) r <;> rfl]
    simp! [allD_map]
  · obtain ⟨k1, k2⟩ := forM_first (a := sgT (sgCons (sgN 1) (sgCons (sgN 2) sgNil))) (b := loopB) (fun p : Note × Nat => D.tup [.int (p.2 : Nat), eN p.1]) (fun p => if goodAt rs p = true then none else some (.bl false)) (fun G => ∃ a1 a2 a3, G = [some (.fz (.tup (rs.map eN))), a1, a2, a3]) rs.zipIdx [some (.fz (.tup (rs.map eN))), none, none, none] ⟨none, none, none, rfl⟩ (fun p hp G ⟨a1, a2, a3, e⟩ => by
      subst e
      obtain ⟨r, i⟩ := p
      obtain ⟨hi, e⟩ := List.mk_mem_zipIdx_iff_getElem?.mp hp |> List.getElem?_eq_some_iff.mp
      have hr : NoteOk r := by rw [← e]; exact h _ (List.getElem_mem hi)
      have st := bad_step h hr i a3
      refine ⟨[some (.fz (.tup (rs.map eN))), some (.fz (.int (i : Nat))), some (.fz (eN r)), a3], rfl, fun d hd => ?_, fun hd => ?_⟩
      · by_cases g : goodAt rs (r, i) = true
        · rw [if_pos g] at hd; cases hd
        · rw [if_neg g] at hd; cases hd
          rw [st, if_neg g]
      · by_cases g : goodAt rs (r, i) = true
        · exact ⟨_, by rw [st, if_pos g], _, _, _, rfl⟩
        · rw [if_neg g] at hd; cases hd)
    rw [find_all] at k1 k2
    simp! [m_law_are_notes, b_law_are_notes, isiD_tup, lk_T, itemsOf_tup]
    rw [lcM_pure eN (fun _ => none) rs fun r hr => by simp! [(hf r hr).lw]]
    simp! [show (rs.filterMap fun _ : Note => (none : Option D)) = [] by simp, nil_ne, enum_notes]
    show EK.bnd (forM (sgT (sgCons (sgN 1) (sgCons (sgN 2) sgNil))) loopB (rs.zipIdx.map fun p : Note × Nat => D.tup [.int (p.2 : Nat), eN p.1]) [some (.fz (.tup (rs.map eN))), none, none, none]) _ = _
    by_cases g : rs.zipIdx.all (goodAt rs) = true
    · rw [if_pos g] at k2
      obtain ⟨G', e, _⟩ := k2 rfl
      rw [e]
      simp! [g]
    · rw [if_neg g] at k1
      rw [k1 _ rfl]
      rw [Bool.not_eq_true] at g
      simp! [g]
theorem rb_row {xs : List D} (hl : xs.length < 1000) (hx : ∀ x ∈ xs, ∃ k, NB x k) : ∃ k, RB (.tup xs) k := by
  obtain ⟨f, hf⟩ := pick_flags hx
  by_cases a : ∀ x ∈ xs, f x = true
  · obtain ⟨rs, rfl, hr⟩ := notes_of (xs := xs) fun x hx => (hf x hx).ok (a x hx)
    refine ⟨_, rb_notes (by rw [List.length_map] at hl; exact hl) hr fun r hr => ?_⟩
    have := hf (eN r) (List.mem_map.mpr ⟨r, hr, rfl⟩)
    rwa [a _ (List.mem_map.mpr ⟨r, hr, rfl⟩)] at this
  · have na : xs.all f = false := by
      rw [Bool.eq_false_iff]
      exact fun z => a (List.all_eq_true.mp z)
    refine ⟨false, ?_, ?_, fun z => by cases z⟩
    · simp! [m_are_records, b_are_records, isiD_tup, lk_T, itemsOf_tup]
      rw [show xs = xs.map id by simp, lcM_map id (fun x => .bl (f x)) xs fun x hx => by simp! [id, (hf x hx).pg]]
      simp! [allD_map, na]
    · simp! [m_law_are_notes, b_law_are_notes, isiD_tup, lk_T, itemsOf_tup]
      rw [show lcM (sgN 2) (bNot (tB' (gCall 1 m_law_is_note (saC (gv 2) sa0)))) (fun _ => EK.ret (.int 1)) [some (.fz (.tup xs)), none, none, none] xs = lcM (sgN 2) (bNot (tB' (gCall 1 m_law_is_note (saC (gv 2) sa0)))) (fun _ => EK.ret (.int 1)) [some (.fz (.tup xs)), none, none, none] (xs.map id) by rw [List.map_id], lcM_pure id (fun x => if (!f x) = true then some (.int 1) else none) xs fun x hx => by
        simp! [id, (hf x hx).lw]
        cases f x <;> rfl]
      have q : decide (xs.filter (fun x => !f x) = []) = false := by
        rw [fil_nil, Bool.not_eq_false', List.any_eq_true]
        obtain ⟨x, hx, e⟩ := not_all_ex a
        exact ⟨x, hx, by rw [e]; rfl⟩
      simp! [fm_ones, ones_ne, q]
end K05


set_option maxHeartbeats 2000000
namespace K05
open PySem PySem.Spec PyProof.Rows L2 EK EKL
structure TB (d : D) (k : Bool) : Prop where
  pg : m_is_log [d] = EK.ret (.bl k)
  lw : m_law_is_tape [d] = EK.ret (.bl k)
  ok : k = true → ∃ t, d = eT t ∧ LogOk t ∧ t.1.length < 1000
theorem tb_flat {d : D} (h : NotT d) : TB d false := by
  refine ⟨?_, ?_, fun z => by cases z⟩
  · unfold NotT at h
    simp! [m_is_log, b_is_log, h]
  · unfold NotT at h
    simp! [m_law_is_tape, b_law_is_tape, h]
theorem ne_2 {n : Nat} (h : n ≠ 2) : neD (.int (n : Int)) (.int 2) = some (.bl true) := by
  rw [neD_int, decide_eq_false (by omega)]; rfl
theorem ne_22 : neD (.int 2) (.int 2) = some (.bl false) := by rw [neD_int]; simp
theorem tb_len {xs : List D} (h : xs.length ≠ 2) : TB (.tup xs) false := by
  refine ⟨?_, ?_, fun z => by cases z⟩
  · simp! [m_is_log, b_is_log, isiD_tup, lk_T, lenD_tup, ne_2 h]
  · simp! [m_law_is_tape, b_law_is_tape, isiD_tup, lk_T, lenD_tup, ne_2 h]
/-- the second part of a log, as drawn -/
def Snd (y : D) : Prop := m_is_number [y] = EK.ret (.bl false) ∨ ∃ i : Int, y = .int i
theorem tb_two {x y : D} {kx : Bool} (hx : RB x kx) (hy : Snd y) : ∃ k, TB (.tup [x, y]) k := by
  have i0 : ixD (.tup [x, y]) (.int 0) = some x := rfl
  have i1 : ixD (.tup [x, y]) (.int 1) = some y := rfl
  have l2 : lenD [.tup [x, y]] = some (.int 2) := rfl
  have pg := hx.pg
  have lw := hx.lw
  cases kx with
  | false => exact ⟨false, by simp! [m_is_log, b_is_log, isiD_tup, lk_T, l2, ne_22, i0, pg], by simp! [m_law_is_tape, b_law_is_tape, isiD_tup, lk_T, l2, ne_22, i0, lw], fun z => by cases z⟩
  | true =>
    obtain ⟨rs, rfl, hr, hl⟩ := hx.ok rfl
    rcases hy with hy | ⟨i, rfl⟩
    · exact ⟨false, by simp! [m_is_log, b_is_log, isiD_tup, lk_T, l2, ne_22, i0, pg, i1, hy], by simp! [m_law_is_tape, b_law_is_tape, isiD_tup, lk_T, l2, ne_22, i0, lw, i1, law_number, hy], fun z => by cases z⟩
    · refine ⟨decide (0 ≤ i ∧ i ≤ (rs.length : Int)), ?_, ?_, fun z => ?_⟩
      · by_cases a : 0 ≤ i
        · by_cases b : i ≤ (rs.length : Int) <;> simp! [m_is_log, b_is_log, isiD_tup, lk_T, l2, ne_22, i0, pg, i1, is_number_int, lenD_tup, List.length_map, a, b, and_self, and_false, decide_true, decide_false]
        · simp! [m_is_log, b_is_log, isiD_tup, lk_T, l2, ne_22, i0, pg, i1, is_number_int, lenD_tup, List.length_map, a, false_and, decide_false]
      · by_cases a : 0 ≤ i
        · by_cases b : i ≤ (rs.length : Int) <;> simp! [m_law_is_tape, b_law_is_tape, isiD_tup, lk_T, l2, ne_22, i0, lw, i1, law_number, is_number_int, lenD_tup, List.length_map, a, b, and_self, and_false, decide_true, decide_false]
        · simp! [m_law_is_tape, b_law_is_tape, isiD_tup, lk_T, l2, ne_22, i0, lw, i1, law_number, is_number_int, lenD_tup, List.length_map, a, false_and, decide_false]
      · rw [decide_eq_true_eq] at z
        obtain ⟨j, rfl⟩ : ∃ j : Nat, i = (j : Int) := ⟨i.toNat, by omega⟩
        exact ⟨(rs, j), rfl, ⟨hr, by show j ≤ rs.length; omega⟩, hl⟩
inductive Item : D → Prop
  | flat {d : D} (h : NotT d) : Item d
  | row {xs : List D} (h : xs.length ≠ 2) {k : Bool} (r : RB (.tup xs) k) : Item (.tup xs)
  | two {x y : D} {k : Bool} (r : RB x k) (h : Snd y) : Item (.tup [x, y])
theorem Item.tb {d : D} (h : Item d) : ∃ k, TB d k := by
  cases h with
  | flat h => exact ⟨_, tb_flat h⟩
  | row h r => exact ⟨_, tb_len h⟩
  | two r h => exact tb_two r h
theorem nb_str (x : Str) : NB (.str x) false := nb_flat rfl
theorem nb_int (i : Int) : NB (.int i) false := nb_flat rfl
theorem nb_notes (rs : List Note) : NB (.tup (rs.map eN)) false := by
  cases rs with
  | nil => exact nb_few (by simp)
  | cons r rs => exact nb_first (by cases r <;> rfl)
theorem rb_note (r : Note) : ∃ k, RB (eN r) k := by
  cases r with
  | pr n => exact rb_row (by simp) (tup2 ⟨_, nb_str _⟩ ⟨_, nb_int n⟩)
  | en n e => exact rb_row (by simp) (tup3 ⟨_, nb_str _⟩ ⟨_, nb_int n⟩ ⟨_, nb_str e⟩)
theorem num_note (r : Note) : m_is_number [eN r] = EK.ret (.bl false) := by cases r <;> rfl
theorem all_notes {rs : List Note} (h : ∀ r ∈ rs, NoteOk r) : ∀ d ∈ rs.map eN, ∃ k, NB d k := fun d hd => by
  obtain ⟨r, hr, rfl⟩ := List.mem_map.mp hd
  exact nb_note (h r hr)
theorem item_row {xs : List D} (h : xs.length ≠ 2) (hl : xs.length < 1000) (hx : ∀ x ∈ xs, ∃ k, NB x k) : Item (.tup xs) := by
  obtain ⟨k, r⟩ := rb_row hl hx
  exact .row h r
theorem item_two {xs : List D} {y : D} (hl : xs.length < 1000) (hx : ∀ x ∈ xs, ∃ k, NB x k) (hy : Snd y) : Item (.tup [.tup xs, y]) := by
  obtain ⟨k, r⟩ := rb_row hl hx
  exact .two r hy
theorem item_notes {rs : List Note} (hl : rs.length < 1000) (h : ∀ r ∈ rs, NoteOk r) : Item (.tup (rs.map eN)) := by
  by_cases l : (rs.map eN).length = 2
  · match rs, l with
    | [a, b], _ =>
      obtain ⟨k, r⟩ := rb_note a
      exact .two r (.inl (num_note b))
  · exact item_row l (by rw [List.length_map]; exact hl) (all_notes h)
def Xs (rs : List Note) : Prop := ∀ n e, Note.en n e ∈ rs → e = S "x"
theorem xq : addD (.str (S "x")) (.str (S "q")) = some (.str (S "xq")) := by rfl
theorem cutL_from {α : Type} (xs : List α) (n : Nat) : cutL xs (some (n : Int)) none = xs.drop n := by
  unfold cutL
  rw [HT.sIx_none, HT.sIx_nat]
  by_cases h : n ≤ xs.length
  · rw [Nat.min_eq_left h, List.take_of_length_le (by rw [List.length_drop]; omega)]
  · rw [Nat.min_eq_right (by omega), List.drop_of_length_le (Nat.le_refl _), List.drop_of_length_le (by omega)]
    simp
theorem cut_mid {α : Type} (xs : List α) (a : Nat) : ∃ ys, cutL xs (some (a : Int)) (some ((a : Int) + 1)) = ys ∧ (∀ y ∈ ys, y ∈ xs) ∧ ys.length ≤ 1 := by
  refine ⟨_, rfl, fun y hy => List.mem_of_mem_drop (List.mem_of_mem_take hy), ?_⟩
  unfold cutL
  rw [show ((a : Int) + 1) = ((a + 1 : Nat) : Int) by omega, HT.sIx_nat, HT.sIx_nat, List.length_take]
  omega
theorem bent_tr {t : List Note × Nat} (h : LogOk t) (hl : t.1.length ≤ 900) (hx : Xs t.1) : Tr 4 (m_law_bent [.drw, eT t]) fun d => Item d := by
  have okn := h.rs.ok
  have ad : ∀ a b : List D, a.length + b.length ≤ 100 → addD (.lst a) (.lst b) = some (.lst (a ++ b)) := fun a b q => addD_lst a b (by rw [sizeLine_eq]; omega)
  have adT : ∀ a b : List D, a.length + b.length ≤ 10000 → addD (.tup a) (.tup b) = some (.tup (a ++ b)) := fun a b q => addD_tup a b (by rw [sizeLine_eq]; omega)
  have l1000 : t.1.length < 1000 := by omega
  have lm : (t.1.map eN).length < 1000 := by rw [List.length_map]; exact l1000
  have ez : eqD (.tup (t.1.map eN)) (.tup []) = some (.bl (decide (t.1 = []))) := eqD_cl (n := 2) (k := 1) (Cl.tup (cl_notes okn)) (Cl.tup (n := 0) fun d hd => by cases hd) (by rw [decide_eq_true_eq, D.tup.injEq, List.map_eq_nil_iff])
  have A : ∀ d, d ∈ ([.non, .tup [], .tup (t.1.map eN), .lst [.tup (t.1.map eN), .int (t.2 : Nat)], .tup [.lst (t.1.map eN), .int (t.2 : Nat)], .tup [.tup (t.1.map eN), .int (t.2 : Nat), .int 0], .tup [.tup (t.1.map eN), .int (-1)], .tup [.tup (t.1.map eN), .int ((t.1.length : Int) + 1)], .tup [.tup (t.1.map eN), .bl true], .tup [.tup (t.1.map eN), .non], .tup [.tup (t.1.map eN), .int (t.1.length : Int)], .tup [.tup (t.1.map eN), .int 0]] : List D) → Item d := fun d hd => by
    have two : ∀ y, Snd y → Item (.tup [.tup (t.1.map eN), y]) := fun y hy => item_two lm (all_notes okn) hy
    simp only [List.mem_cons, List.not_mem_nil, or_false] at hd
    rcases hd with rfl | rfl | rfl | rfl | rfl | rfl | rfl | rfl | rfl | rfl | rfl | rfl
    · exact .flat rfl
    · exact item_row (by simp) (by simp) fun x hx => by cases hx
    · exact item_notes l1000 okn
    · exact .flat rfl
    · exact .two (rb_flat rfl) (.inr ⟨_, rfl⟩)
    · exact item_row (by simp) (by simp) (tup3 ⟨_, nb_notes _⟩ ⟨_, nb_int _⟩ ⟨_, nb_int _⟩)
    · exact two _ (.inr ⟨_, rfl⟩)
    · exact two _ (.inr ⟨_, rfl⟩)
    · exact two _ (.inl rfl)
    · exact two _ (.inl rfl)
    · exact two _ (.inr ⟨_, rfl⟩)
    · exact two _ (.inr ⟨_, rfl⟩)
  have lt : ∀ xs : List D, listD [.tup xs] = some (.lst xs) := fun _ => rfl
  have ng : negD (.int 1) = some (.int (-1)) := rfl
  simp! [m_law_bent, b_law_bent, itemsT_eT, ez]
  by_cases z : t.1 = []
  · simp! [if_pos z, lt, ng, lenD_tup, List.length_map]
    rw [ad _ _ (by simp)]
    simp! []
    refine Tr.le (Tr.bnd (pick1 (by simp) (by simp)) (j := 0) fun d hd => ?_) (by decide)
    exact Tr.ret (A d (by simpa using hd))
  · simp! [if_neg z]
    refine Tr.le (Tr.bnd (take_tr (k := 3) (by omega) (by omega)) (j := 3) fun y ⟨m, e, hm⟩ => ?_) (by decide)
    subst e
    simp! [eqD_int]
    by_cases u : (m : Int) = 0
    · simp! [u, decide_true, lt, ng, lenD_tup, List.length_map]
      rw [ad _ _ (by simp)]
      simp! []
      refine Tr.le (Tr.bnd (pick1 (by simp) (by simp)) (j := 0) fun d hd => ?_) (by decide)
      exact Tr.ret (A d (by simpa using hd))
    · simp! [u, decide_false, lenD_tup, List.length_map]
      have l0 : 0 < t.1.length := List.length_pos_iff.mpr z
      refine Tr.le (Tr.bnd (take_tr (k := (t.1.length : Int)) (by omega) (by omega)) (j := 2) fun y ⟨a, e, ha⟩ => ?_) (by decide)
      subst e
      have ha' : a < t.1.length := by omega
      have ix : ixD (.tup (t.1.map eN)) (.int (a : Int)) = some (eN t.1[a]) := by
        refine (atI_ofNat (xs := t.1.map eN) (j := a) (by rw [List.length_map]; exact ha')).trans ?_
        rw [List.getElem_map]
      have on := okn _ (List.getElem_mem ha')
      simp! [ix]
      refine Tr.le (Tr.bnd (bent_note_tr on) (j := 1) fun q hq => ?_) (by decide)
      obtain ⟨ys, ey, hy, hyl⟩ := cut_mid (t.1.map eN) a
      have x0 : ∀ x ∈ (t.1.map eN).take a ++ [q] ++ (t.1.map eN).drop (a + 1), ∃ k, NB x k := fun x hx => by
        rcases List.mem_append.mp hx with hx | hx
        · rcases List.mem_append.mp hx with hx | hx
          · exact all_notes okn x (List.mem_of_mem_take hx)
          · rw [List.mem_singleton.mp hx]; exact hq
        · exact all_notes okn x (List.mem_of_mem_drop hx)
      have x1 : ∀ x ∈ t.1.map eN ++ ys, ∃ k, NB x k := fun x hx => by
        rcases List.mem_append.mp hx with hx | hx
        · exact all_notes okn x hx
        · exact all_notes okn x (hy x hx)
      have x2 : ∀ x ∈ (t.1.map eN).take a, ∃ k, NB x k := fun x hx => all_notes okn x (List.mem_of_mem_take hx)
      have sn : Snd (.int (t.2 : Nat)) := .inr ⟨_, rfl⟩
      have lx0 : ((t.1.map eN).take a ++ [q] ++ (t.1.map eN).drop (a + 1)).length < 1000 := by simp; omega
      have lx1 : (t.1.map eN ++ ys).length < 1000 := by simp; omega
      have lx2 : ((t.1.map eN).take a).length < 1000 := by simp; omega
      have a1 : addD (.tup ((t.1.map eN).take a)) (.tup [q]) = some (.tup ((t.1.map eN).take a ++ [q])) := adT _ _ (by simp; omega)
      have a2 : addD (.tup ((t.1.map eN).take a ++ [q])) (.tup ((t.1.map eN).drop (a + 1))) = some (.tup ((t.1.map eN).take a ++ [q] ++ (t.1.map eN).drop (a + 1))) := adT _ _ (by simp; omega)
      have a3 : addD (.tup (t.1.map eN)) (.tup ys) = some (.tup (t.1.map eN ++ ys)) := adT _ _ (by simp; omega)
      have cf : cutL (t.1.map eN) (some ((a : Int) + 1)) none = (t.1.map eN).drop (a + 1) := cutL_from (t.1.map eN) (a + 1)
      have ct : cutL (t.1.map eN) none (some (a : Int)) = (t.1.map eN).take a := cutL_to _ _
      have fin : ∀ L : List D, L ≠ [] → L.length ≤ 4 → (∀ x ∈ L, ∃ xs, x = .tup xs ∧ xs.length < 1000 ∧ ∀ y ∈ xs, ∃ k, NB y k) → Tr 1 (EK.bnd (m_law_pick [.drw, .lst L]) fun a => EK.ret (.tup [a, .int (t.2 : Nat)])) Item := fun L h0 h4 hL => by
        refine Tr.le (Tr.bnd (pick1 h0 (by omega)) (j := 0) fun d hd => ?_) (by decide)
        obtain ⟨xs, rfl, h1, h2⟩ := hL d hd
        exact Tr.ret (item_two h1 h2 sn)
      have three : ∀ x ∈ [D.tup ((t.1.map eN).take a ++ [q] ++ (t.1.map eN).drop (a + 1)), .tup (t.1.map eN ++ ys), .tup ((t.1.map eN).take a)], ∃ xs, x = .tup xs ∧ xs.length < 1000 ∧ ∀ y ∈ xs, ∃ k, NB y k := fun x hx => by
        simp only [List.mem_cons, List.not_mem_nil, or_false] at hx
        rcases hx with rfl | rfl | rfl
        · exact ⟨_, rfl, lx0, x0⟩
        · exact ⟨_, rfl, lx1, x1⟩
        · exact ⟨_, rfl, lx2, x2⟩
      simp! [ct, cf, ey, a1, a2, a3]
      generalize hr : t.1[a] = r at ix on
      cases r with
      | pr n =>
        have i0 : ixD (eN (.pr n)) (.int 0) = some (.str (S "promise")) := rfl
        simp! [i0, eq_pe]
        exact fin _ (by simp) (by simp) three
      | en n e =>
        have ex : e = S "x" := hx n e (by rw [← hr]; exact List.getElem_mem ha')
        subst ex
        have i0 : ixD (eN (.en n (S "x"))) (.int 0) = some (.str (S "entry")) := rfl
        have i1 : ixD (eN (.en n (S "x"))) (.int 1) = some (.int n) := rfl
        have i2 : ixD (eN (.en n (S "x"))) (.int 2) = some (.str (S "x")) := rfl
        have lx : lenD [.str (S "x")] = some (.int 1) := by rfl
        have sq : sliceT none (some (6 - 1)) (.str (Str.ofString "q")) = some (.str (S "q")) := by rfl
        have a4 : addD (.tup (t.1.map eN)) (.tup [.tup [.str (S "entry"), .int n, .str (S "xq")]]) = some (.tup (t.1.map eN ++ [.tup [.str (S "entry"), .int n, .str (S "xq")]])) := adT _ _ (by simp; omega)
        simp! [i0, i1, i2, eq_ee, ix, gSlT, lx, sq, xq, a4, show 3 < PySem.sizeLine by rw [sizeLine_eq]; decide]
        refine fin _ (List.cons_ne_nil _ _) (Nat.le_refl 4) fun x hx => ?_
        rcases List.mem_cons.mp hx with rfl | hx
        · exact ⟨_, rfl, lx0, x0⟩
        rcases List.mem_cons.mp hx with rfl | hx
        · exact ⟨_, rfl, lx1, x1⟩
        rcases List.mem_cons.mp hx with rfl | hx
        · exact ⟨_, rfl, lx2, x2⟩
        · rw [List.mem_singleton.mp hx]
          refine ⟨_, rfl, by simp; omega, fun y hy => ?_⟩
          rcases List.mem_append.mp hy with hy | hy
          · exact all_notes okn y hy
          · rw [List.mem_singleton.mp hy]
            exact nb_three ok_entry n (nm_str (by decide +kernel) (by decide +kernel))
end K05


set_option maxHeartbeats 2000000
namespace K05
open PySem PySem.Spec PyProof.Rows L2 EK EKL
def restM : SS := (sSeq (sIf (tB' (g2 neD (gWord ["BadHand", "BadLeft", "BadLog", "BadRecord"] (gCall 1 m_read (saC (gv 13) sa0)) 2 b_law_word) (vIf (tB' (gCall 1 m_law_are_notes (saC (gv 13) sa0))) (gLst (saC (fun _ => EK.ret (.bl true)) sa0)) (gLst (saC (fun _ => EK.ret (.str "tape")) sa0))))) (sRet (fun _ => EK.ret (.bl false))) sNil) (sIf (tB' (g2 neD (gWord ["BadHand", "BadLeft", "BadLog", "BadRecord"] (gCall 1 m_may_forget (saC (gCall 2 m_law_pick (saC (gv 1) (saC (gLst (saC (fun _ => EK.ret .non) (saC (fun _ => EK.ret (.int 5)) (saC (gv 4) (saC (fun _ => EK.ret (.str "forced")) sa0))))) sa0))) sa0)) 2 b_law_word) (gLst (saC (fun _ => EK.ret (.str "hand")) (saC (fun _ => EK.ret (.str "hand")) sa0))))) (sRet (fun _ => EK.ret (.bl false))) sNil))
def restN : SS := (sSeq (sAsg (vIf (bAnd (tB' (g1 (isiD [] fun t => List.lookup t ([("NoneType", false), ("bool", false), ("int", false), ("str", false), ("tuple", true), ("list", false), ("dict", false)] : List (String × Bool))) (gv 8))) (tB' (g2 eqD (gC lenD (saC (gv 8) sa0)) (fun _ => EK.ret (.int 2))))) (g2 ixD (gv 8) (fun _ => EK.ret (.int 0))) (gv 8)) (sgN 13)) restM)
def restT : SS := (sSeq (sAsg (vIf (tB' (gCall 1 m_law_is_tape (saC (gv 8) sa0))) (gLst (saC (fun _ => EK.ret (.bl true)) sa0)) (gLst (saC (fun _ => EK.ret (.str "tape")) sa0))) (sgN 10)) (sSeq (sAsg (gCall 2 m_law_pick (saC (gv 1) (saC (gLst (saC (fun _ => EK.ret .non) (saC (g1 negD (fun _ => EK.ret (.int 1))) (saC (fun _ => EK.ret (.int 7)) (saC (fun _ => EK.ret (.bl true)) (saC (fun _ => EK.ret (.str "0")) (saC (fun _ => EK.ret (.int 0)) (saC (fun _ => EK.ret (.int 1)) (saC (fun _ => EK.ret (.int 2)) sa0))))))))) sa0))) (sgN 11)) (sSeq (sOwn 12 (gLD (saC (gWord ["BadHand", "BadLeft", "BadLog", "BadRecord"] (gCall 1 m_can_leave (saC (gv 8) sa0)) 2 b_law_word) sa0))) (sSeq (sApp 12 (gWord ["BadHand", "BadLeft", "BadLog", "BadRecord"] (gCall 2 m_fallen (saC (gv 8) (saC (gv 11) sa0))) 2 b_law_word)) (sSeq (sIf (bAnd (tB' (g2 eqD (gv 10) (gLst (saC (fun _ => EK.ret (.bl true)) sa0)))) (bOr (bNot (tB' (gCall 1 m_law_is_number (saC (gv 11) sa0)))) (bNot (tB' (g3 leP leI (g2 ixD (gv 8) (fun _ => EK.ret (.int 1))) (gv 11) (gC lenD (saC (g2 ixD (gv 8) (fun _ => EK.ret (.int 0))) sa0))))))) (sAsg (gLst (saC (gLst (saC (fun _ => EK.ret (.bl true)) sa0)) (saC (gLst (saC (fun _ => EK.ret (.str "rest")) (saC (gv 11) sa0))) sa0))) (sgN 10)) (sAsg (gLst (saC (gv 10) (saC (gv 10) sa0))) (sgN 10))) (sFrz 12 (sSeq (sIf (tB' (g2 neS (gC reprD (saC (gv 12) sa0)) (gC reprD (saC (gv 10) sa0)))) (sRet (fun _ => EK.ret (.bl false))) sNil) restN)))))))
def restA : SS := (sSeq (sAsg (gLst (saC (fun _ => EK.ret (.bl true)) sa0)) (sgN 10)) (sSeq (sIf (bNot (tB' (g1 (isiD [("Hand", true)] fun t => List.lookup t ([("NoneType", false), ("bool", false), ("int", false), ("str", false), ("tuple", false), ("list", false), ("dict", false)] : List (String × Bool))) (gv 7)))) (sAsg (gLst (saC (fun _ => EK.ret (.str "hand")) (saC (fun _ => EK.ret (.str "hand")) sa0))) (sgN 10)) (sIf (bNot (tB' (gCall 1 m_law_is_tape (saC (gv 8) sa0)))) (sAsg (gLst (saC (fun _ => EK.ret (.str "tape")) sa0)) (sgN 10)) (sIf (bOr (bNot (tB' (gCall 1 m_law_is_note (saC (gv 6) sa0)))) (bNot (tB' (gCall 2 m_law_does_fit (saC (g2 ixD (gv 8) (fun _ => EK.ret (.int 0))) (saC (gv 6) sa0)))))) (sAsg (gLst (saC (fun _ => EK.ret (.str "note")) sa0)) (sgN 10)) sNil))) (sSeq (sIf (tB' (g2 neD (gWord ["BadHand", "BadLeft", "BadLog", "BadRecord"] (gCall 3 m_written (saC (gv 7) (saC (gv 8) (saC (gv 6) sa0)))) 2 b_law_word) (gv 10))) (sRet (fun _ => EK.ret (.bl false))) sNil) restT)))
theorem b_law_cut : b_law = (sSeq (sFor (gItC rng1 (saC (g2 addD (fun _ => EK.ret (.int 3)) (gC min2D (saC (gC lenD (saC (gv 0) sa0)) (saC (fun _ => EK.ret (.int 12)) sa0)))) sa0)) (sgN 2) (sSeq (sAsg (EK.gTup (saC (EK.gTup (saC (EK.gTup sa0) (saC (fun _ => EK.ret (.int 0)) sa0))) (saC (gCall 1 m_law_word_pair (saC (gv 1) sa0)) sa0))) (sgT (sgCons (sgN 3) (sgCons (sgN 4) sgNil)))) (sSeq (sFor (gItC rng1 (saC (gCall 2 m_law_take (saC (gv 1) (saC (fun _ => EK.ret (.int 6)) sa0))) sa0)) (sgN 5) (sSeq (sAsg (gCall 2 m_law_pick (saC (gv 1) (saC (gLst (saC (EK.gTup (saC (fun _ => EK.ret (.str "promise")) (saC (g2 addD (fun _ => EK.ret (.int 1)) (gCall 2 m_law_take (saC (gv 1) (saC (fun _ => EK.ret (.int 5)) sa0)))) sa0))) (saC (EK.gTup (saC (fun _ => EK.ret (.str "entry")) (saC (g2 addD (fun _ => EK.ret (.int 1)) (gCall 2 m_law_take (saC (gv 1) (saC (fun _ => EK.ret (.int 5)) sa0)))) (saC (fun _ => EK.ret (.str "x")) sa0)))) sa0))) sa0))) (sgN 6)) (sAsg (gCall 3 m_law_noted (saC (EK.gTup (saC (fun _ => EK.ret (.str "lazy")) (saC (gCall 2 m_law_pick (saC (gv 1) (saC (gLst (saC (fun _ => EK.ret (.str "lazy")) (saC (fun _ => EK.ret (.str "forced")) sa0))) sa0))) (saC (fun _ => EK.ret (.str "at once")) sa0)))) (saC (gv 3) (saC (gv 6) sa0)))) (sgN 3)))) (sSeq (sAsg (gCall 2 m_law_pick (saC (gv 1) (saC (g2 addD (g2 mulD (gLst (saC (gMake "Hand" 3 m_Hand___init__ (saC (g2 ixD (gv 4) (fun _ => EK.ret (.int 0))) (saC (g2 ixD (gv 4) (fun _ => EK.ret (.int 1))) (saC (g2 ixD (gv 4) (fun _ => EK.ret (.int 2))) sa0)))) sa0)) (fun _ => EK.ret (.int 4))) (gLst (saC (fun _ => EK.ret .non) (saC (fun _ => EK.ret (.str "hand")) (saC (gv 4) sa0))))) sa0))) (sgN 7)) (sSeq (sAsg (EK.gTup (saC (gv 3) (saC (EK.gTup (saC (fun _ => EK.ret (.str "promise")) (saC (g2 addD (fun _ => EK.ret (.int 1)) (gCall 2 m_law_take (saC (gv 1) (saC (fun _ => EK.ret (.int 9)) sa0)))) sa0))) sa0))) (sgT (sgCons (sgN 8) (sgCons (sgN 6) sgNil)))) (sSeq (sFor (gItC rng1 (saC (gCall 2 m_law_pick (saC (gv 1) (saC (gLst (saC (fun _ => EK.ret (.int 0)) (saC (fun _ => EK.ret (.int 1)) (saC (fun _ => EK.ret (.int 1)) sa0)))) sa0))) sa0)) (sgN 9) (sAsg (gCall 2 m_law_bent (saC (gv 1) (saC (gv 3) sa0))) (sgN 8))) (sSeq (sAsg (gCall 2 m_law_pick (saC (gv 1) (saC (gLst (saC (gv 6) (saC (gv 6) (saC (gCall 2 m_law_bent_note (saC (gv 1) (saC (gv 6) sa0))) (saC (EK.gTup (saC (fun _ => EK.ret (.str "entry")) (saC (g2 addD (fun _ => EK.ret (.int 1)) (gCall 2 m_law_take (saC (gv 1) (saC (fun _ => EK.ret (.int 5)) sa0)))) (saC (fun _ => EK.ret (.str "y")) sa0)))) sa0))))) sa0))) (sgN 6)) restA))))))) (sRet (vOr (g2 gtI (gCall 2 m_law_take (saC (gv 1) (saC (fun _ => EK.ret (.int 5)) sa0))) (fun _ => EK.ret (.int 0))) (gCall 1 m_law_full_right (saC (gv 1) sa0))))) := rfl
abbrev kx : List Str := ["BadHand", "BadLeft", "BadLog", "BadRecord"]
abbrev kit7 : String → Option Bool := fun t => List.lookup t ([("NoneType", false), ("bool", false), ("int", false), ("str", false), ("tuple", false), ("list", false), ("dict", false)] : List (String × Bool))
theorem lk_one (n : Str) (d : D) : List.lookup n ([n].zip [d]) = some d := by
  rw [List.zip_cons_cons, List.lookup_cons, beq_self_eq_true]
theorem x_0_0 : List.lookup (Str.ofString "BadHand") [(Str.ofString "BadHand", true), (Str.ofString "BadLeft", false), (Str.ofString "BadLog", false), (Str.ofString "BadRecord", false)] = some true := by decide +kernel
theorem x_1_0 : List.lookup (Str.ofString "BadLeft") [(Str.ofString "BadHand", true), (Str.ofString "BadLeft", false), (Str.ofString "BadLog", false), (Str.ofString "BadRecord", false)] = some false := by decide +kernel
theorem x_1_1 : List.lookup (Str.ofString "BadLeft") [(Str.ofString "BadHand", false), (Str.ofString "BadLeft", true), (Str.ofString "BadLog", false), (Str.ofString "BadRecord", false)] = some true := by decide +kernel
theorem x_2_0 : List.lookup (Str.ofString "BadLog") [(Str.ofString "BadHand", true), (Str.ofString "BadLeft", false), (Str.ofString "BadLog", false), (Str.ofString "BadRecord", false)] = some false := by decide +kernel
theorem x_2_1 : List.lookup (Str.ofString "BadLog") [(Str.ofString "BadHand", false), (Str.ofString "BadLeft", true), (Str.ofString "BadLog", false), (Str.ofString "BadRecord", false)] = some false := by decide +kernel
theorem x_2_2 : List.lookup (Str.ofString "BadLog") [(Str.ofString "BadHand", false), (Str.ofString "BadLeft", false), (Str.ofString "BadLog", true), (Str.ofString "BadRecord", false)] = some true := by decide +kernel
theorem x_3_0 : List.lookup (Str.ofString "BadRecord") [(Str.ofString "BadHand", true), (Str.ofString "BadLeft", false), (Str.ofString "BadLog", false), (Str.ofString "BadRecord", false)] = some false := by decide +kernel
theorem x_3_1 : List.lookup (Str.ofString "BadRecord") [(Str.ofString "BadHand", false), (Str.ofString "BadLeft", true), (Str.ofString "BadLog", false), (Str.ofString "BadRecord", false)] = some false := by decide +kernel
theorem x_3_2 : List.lookup (Str.ofString "BadRecord") [(Str.ofString "BadHand", false), (Str.ofString "BadLeft", false), (Str.ofString "BadLog", true), (Str.ofString "BadRecord", false)] = some false := by decide +kernel
theorem x_3_3 : List.lookup (Str.ofString "BadRecord") [(Str.ofString "BadHand", false), (Str.ofString "BadLeft", false), (Str.ofString "BadLog", false), (Str.ofString "BadRecord", true)] = some true := by decide +kernel
theorem c_hand : ([Str.ofString "BadHand"].contains (Str.ofString "BadHand")) = true := by decide +kernel
theorem c_left : ([Str.ofString "BadLeft"].contains (Str.ofString "BadLeft")) = true := by decide +kernel
def dT : D := .lst [.bl true]
def dH : D := .lst [.str (Str.ofString "hand"), .str (Str.ofString "hand")]
def dL : D := .lst [.str (Str.ofString "tape")]
def dR : D := .lst [.str (Str.ofString "note")]
def dF (d : D) : D := .lst [.str (Str.ofString "rest"), d]
theorem word_ok : wordM 2 b_law_word .non = EK.ret dT := by
  simp! [wordM, b_law_word, show ∀ g : List (Str × Bool), ∀ f : String → Option Bool, isiXD g [] f .non = (f "NoneType").map .bl from fun _ _ => rfl, show List.lookup "NoneType" ([("NoneType", false), ("bool", false), ("int", false), ("str", false), ("tuple", false), ("list", false), ("dict", false)] : List (String × Bool)) = some false from rfl, Option.map_some, show isND .non .non = some (.bl true) from rfl]
  rfl
theorem word_hand : wordM 2 b_law_word (.exc "BadHand" ["part"] [.str "hand"]) = EK.ret dH := by
  simp! [wordM, b_law_word, isiXD_exc, x_0_0, fldXD_exc, c_hand, lk_one]
  rfl
theorem word_left (d : D) : wordM 2 b_law_word (.exc "BadLeft" ["left"] [d]) = EK.ret (dF d) := by
  simp! [wordM, b_law_word, isiXD_exc, x_1_0, x_1_1, fldXD_exc, c_left, lk_one]
  rfl
theorem word_log : wordM 2 b_law_word (.exc "BadLog" [] []) = EK.ret dL := by
  simp! [wordM, b_law_word, isiXD_exc, x_2_0, x_2_1, x_2_2]
  rfl
theorem word_rec : wordM 2 b_law_word (.exc "BadRecord" [] []) = EK.ret dR := by
  simp! [wordM, b_law_word, isiXD_exc, x_3_0, x_3_1, x_3_2, x_3_3]
  rfl
theorem gw_ok {f : SE} {G : Sls} {d : D} (h : f G = EK.ret d) : gWord kx f 2 b_law_word G = EK.ret dT := by
  rw [gWord, gCaught_def, h, catchM_ret, bnd_ret, word_ok, noErr_ret]
theorem gw_hand {f : SE} {G : Sls} (h : f G = EK.throw ⟨"BadHand", ["part"], [.str "hand"]⟩) : gWord kx f 2 b_law_word G = EK.ret dH := by
  rw [gWord, gCaught_def, h, catch_exc kx "BadHand" ["part"] [.str "hand"] (by decide +kernel), bnd_ret, word_hand, noErr_ret]
theorem gw_left {f : SE} {G : Sls} {d : D} (h : f G = EK.throw ⟨"BadLeft", ["left"], [d]⟩) : gWord kx f 2 b_law_word G = EK.ret (dF d) := by
  rw [gWord, gCaught_def, h, catch_exc kx "BadLeft" ["left"] [d] (by decide +kernel), bnd_ret, word_left, noErr_ret]
theorem gw_log {f : SE} {G : Sls} (h : f G = EK.throw ⟨"BadLog", [], []⟩) : gWord kx f 2 b_law_word G = EK.ret dL := by
  rw [gWord, gCaught_def, h, catch_exc kx "BadLog" [] [] (by decide +kernel), bnd_ret, word_log, noErr_ret]
theorem gw_rec {f : SE} {G : Sls} (h : f G = EK.throw ⟨"BadRecord", [], []⟩) : gWord kx f 2 b_law_word G = EK.ret dR := by
  rw [gWord, gCaught_def, h, catch_exc kx "BadRecord" [] [] (by decide +kernel), bnd_ret, word_rec, noErr_ret]
theorem ne_TT : neD dT dT = some (.bl false) := by rfl
theorem cl_d (s : String) (h : PyData.strOk (Str.ofString s) = true) : Cl 0 (.str (Str.ofString s)) := Cl.str h
theorem ne_HH : neD dH dH = some (.bl false) := neD_cl (n := 1) (k := 1) (t := true) (Cl.lst (tup2 (cl_d _ (by decide +kernel)) (cl_d _ (by decide +kernel)))) (Cl.lst (tup2 (cl_d _ (by decide +kernel)) (cl_d _ (by decide +kernel)))) (by simp)
theorem cl_L : Cl 1 dL := Cl.lst fun d hd => by rw [List.mem_singleton.mp hd]; exact cl_d _ (by decide +kernel)
theorem ne_LL : neD dL dL = some (.bl false) := neD_cl (t := true) cl_L cl_L (by simp)
theorem cl_R : Cl 1 dR := Cl.lst fun d hd => by rw [List.mem_singleton.mp hd]; exact cl_d _ (by decide +kernel)
theorem ne_RR : neD dR dR = some (.bl false) := neD_cl (t := true) cl_R cl_R (by simp)
theorem eq_TT : eqD dT dT = some (.bl true) := by rfl
theorem eq_LT : eqD dL dT = some (.bl false) := by kernel_rfl
def two : Note → List D
  | .pr n => [.str (S "promise"), .int n]
  | .en n _ => [.str (S "entry"), .int n]
theorem sl2_note (r : Note) : sliceD none (some 2) (eN r) = some (.tup (two r)) := by
  cases r with
  | pr n => exact (sl_to _ 2)
  | en n e => exact (sl_to _ 2)
theorem cl_two {r : Note} : ∀ d ∈ two r, Cl 0 d := by
  cases r with
  | pr n => exact tup2 (Cl.str ok_promise) (Cl.int n)
  | en n e => exact tup2 (Cl.str ok_entry) (Cl.int n)
theorem noted_ok {p e b : Str} (hp : p ∈ words3) (he : e ∈ words3) {t : List Note × Nat} (h : ∀ r ∈ t.1, NoteOk r) {r : Note} (hr : NoteOk r) (hl : t.1.length < 1000) : m_law_noted [.tup [.str p, .str e, .str b], eT t, eN r] = EK.ret (eT (writtenN p e t r)) := by
  have ht : (t.1.map eN).length + ([eN r] : List D).length ≤ PySem.sizeLine := by rw [List.length_map, sizeLine_eq]; simp; omega
  have w0 : ixD (.tup [.str p, .str e, .str b]) (.int 0) = some (.str p) := rfl
  have w1 : ixD (.tup [.str p, .str e, .str b]) (.int 1) = some (.str e) := rfl
  cases r with
  | pr n =>
    have hw := words_ok _ hp
    have e1 : eqD (.str p) (.str (S "none")) = some (.bl (decide (p = S "none"))) := eq_word hw ok_none
    have e2 : eqD (.str p) (.str (S "forced")) = some (.bl (decide (p = S "forced"))) := eq_word hw ok_forced
    have hin := in_notes hr h
    unfold writtenN wordN
    simp! [m_law_noted, b_law_noted, itemsT_eT, ix_note0, eq_pp, w0, w1, e1, hin]
    by_cases z : p = S "none"
    · simp! [if_pos z, if_pos (Or.inl z)]
    · by_cases y : Note.pr n ∈ t.1
      · simp! [if_neg z, if_pos y, if_pos (Or.inr y)]
      · simp! [if_neg z, if_neg y, if_neg (fun q : p = S "none" ∨ Note.pr n ∈ t.1 => q.elim z y)]
        rw [addD_tup _ _ ht]
        simp! [lenD_tup, List.length_map, e2]
        by_cases x : p = S "forced"
        · simp! [if_pos x, eT, List.map_append]
          rfl
        · simp! [if_neg x, eT, List.map_append]
  | en n f =>
    have hw := words_ok _ he
    have e1 : eqD (.str e) (.str (S "none")) = some (.bl (decide (e = S "none"))) := eq_word hw ok_none
    have e2 : eqD (.str e) (.str (S "forced")) = some (.bl (decide (e = S "forced"))) := eq_word hw ok_forced
    have hin := in_notes hr h
    unfold writtenN wordN
    simp! [m_law_noted, b_law_noted, itemsT_eT, ix_note0, eq_ep, w0, w1, e1, hin]
    by_cases z : e = S "none"
    · simp! [if_pos z, if_pos (Or.inl z)]
    · by_cases y : Note.en n f ∈ t.1
      · simp! [if_neg z, if_pos y, if_pos (Or.inr y)]
      · simp! [if_neg z, if_neg y, if_neg (fun q : e = S "none" ∨ Note.en n f ∈ t.1 => q.elim z y)]
        rw [addD_tup _ _ ht]
        simp! [lenD_tup, List.length_map, e2]
        by_cases x : e = S "forced"
        · simp! [if_pos x, eT, List.map_append]
          rfl
        · simp! [if_neg x, eT, List.map_append]
def twoB (o r : Note) : Bool := decide (isEn o = isEn r) && decide (o.term = r.term)
theorem twoB_iff (o r : Note) : twoB o r = true ↔ D.tup (two o) = .tup (two r) := by
  unfold twoB
  rw [Bool.and_eq_true, decide_eq_true_eq, decide_eq_true_eq]
  cases o <;> cases r <;> simp [isEn, two, Note.term, ne_pe, ne_ep]
def badF (r o : Note) : Bool := isEn r && (twoB o r && decide (o ≠ r))
theorem badF_fit (r o : Note) : badF r o = !fit2 o r := by
  cases r with
  | pr m =>
    have : fit2 o (.pr m) = true := by cases o <;> rfl
    rw [this]; rfl
  | en m f =>
    cases o with
    | pr n =>
      rfl
    | en n e =>
      have h1 : fit2 (.en n e) (.en m f) = (if n = m then some (decide (e = f)) else none : Option Bool).getD true := rfl
      rw [h1, badF]
      by_cases z : n = m
      · subst z
        by_cases y : e = f
        · subst y; simp [isEn]
        · simp [isEn, y, twoB, Note.term]
      · simp [isEn, z, twoB, Note.term]
theorem fits_bad (rs : List Note) (r : Note) : (!rs.any (badF r)) = fitsB rs r := by
  rw [List.not_any_eq_all_not]
  unfold fitsB
  congr 1
  funext o
  rw [badF_fit, Bool.not_not]
theorem does_fit_ok {rs : List Note} (h : ∀ r ∈ rs, NoteOk r) {r : Note} (hr : NoteOk r) : m_law_does_fit [.tup (rs.map eN), eN r] = EK.ret (.bl (fitsB rs r)) := by
  simp! [m_law_does_fit, b_law_does_fit, itemsOf_tup]
  rw [lcM_pure eN (fun o => if badF r o = true then some (.int 1) else none) rs fun o ho => by
    have O := h o ho
    have e2 : eqD (.tup (two o)) (.tup (two r)) = some (.bl (twoB o r)) := eqD_cl (n := 1) (k := 1) (Cl.tup cl_two) (Cl.tup cl_two) (twoB_iff o r)
    have e3 : neD (eN o) (eN r) = some (.bl (!decide (o = r))) := neD_cl (cl_note O) (cl_note hr) (by rw [decide_eq_true_eq]; exact ⟨fun h => by rw [h], eN_inj⟩)
    have s1 := sl2_note o
    have s2 := sl2_note r
    have l2 := len_note r
    cases er : isEn r with
    | false =>
      rw [er] at l2
      simp! [l2, eqD_int, e23, decide_false, badF, er, Bool.false_and]
    | true =>
      rw [er] at l2
      have dn : decide (o ≠ r) = !decide (o = r) := decide_not
      cases a : twoB o r with
      | true =>
        rw [a] at e2
        cases c : decide (o = r) with
        | true =>
          rw [c] at e3 dn
          simp! [l2, eqD_int, decide_true, s1, s2, e2, e3, badF, er, a, dn, Bool.true_and, Bool.not_true, if_true]
        | false =>
          rw [c] at e3 dn
          simp! [l2, eqD_int, decide_true, s1, s2, e2, e3, badF, er, a, dn, Bool.true_and, Bool.not_false, if_true]
      | false =>
        rw [a] at e2
        simp! [l2, eqD_int, decide_true, s1, s2, e2, badF, er, a, Bool.true_and, Bool.false_and, if_true]]
  simp! [fm_ones, ones_eq, fil_nil, fits_bad]
def notH (d : D) : Prop := isiD [("Hand", true)] kit7 d = some (.bl false)
theorem w_hand {d : D} (h : notH d) (x y : D) : m_written [d, x, y] = EK.throw ⟨"BadHand", ["part"], [.str "hand"]⟩ := by
  unfold notH at h
  simp! [m_written, b_written, h]
theorem f_hand {d : D} (h : notH d) : m_may_forget [d] = EK.throw ⟨"BadHand", ["part"], [.str "hand"]⟩ := by
  unfold notH at h
  simp! [m_may_forget, b_may_forget, h]
theorem need_bad {d : D} (h : TB d false) : m_need_log [d] = EK.throw ⟨"BadLog", [], []⟩ := by
  simp! [m_need_log, b_need_log, h.pg]
theorem w_log (p e b : Str) {d : D} (h : TB d false) (y : D) : m_written [hnd p e b, d, y] = EK.throw ⟨"BadLog", [], []⟩ := by
  simp! [m_written, b_written, isi_hand, need_bad h]
theorem w_rec (p e b : Str) {t : List Note × Nat} (h : LogOk t) {y : D} (hy : NB y false) : m_written [hnd p e b, eT t, y] = EK.throw ⟨"BadRecord", [], []⟩ := by
  simp! [m_written, b_written, isi_hand, need_log_ok h, hy.pg]
theorem w_fit (p e b : Str) {t : List Note × Nat} (h : LogOk t) {r : Note} (hr : NoteOk r) (hf : fitsB t.1 r = false) : m_written [hnd p e b, eT t, eN r] = EK.throw ⟨"BadRecord", [], []⟩ := by
  simp! [m_written, b_written, isi_hand, need_log_ok h, is_record_ok hr, ixT0, fits_ok h.rs.ok hr, hf]
theorem c_log {d : D} (h : TB d false) : m_can_leave [d] = EK.throw ⟨"BadLog", [], []⟩ := by
  simp! [m_can_leave, b_can_leave, need_bad h]
theorem fl_log {d : D} (h : TB d false) (y : D) : m_fallen [d, y] = EK.throw ⟨"BadLog", [], []⟩ := by
  simp! [m_fallen, b_fallen, need_bad h]
theorem fl_non {t : List Note × Nat} (h : LogOk t) {y : D} (hy : m_is_number [y] = EK.ret (.bl false)) : m_fallen [eT t, y] = EK.throw ⟨"BadLeft", ["left"], [y]⟩ := by
  simp! [m_fallen, b_fallen, need_log_ok h, hy]
theorem fl_num {t : List Note × Nat} (h : LogOk t) (hl : t.1.length < 1000) {i : Int} (hi : ¬ ((t.2 : Int) ≤ i ∧ i ≤ (t.1.length : Int))) : m_fallen [eT t, .int i] = EK.throw ⟨"BadLeft", ["left"], [.int i]⟩ := by
  have ni : ninX (.int i) (.lst (lvs t)) = some (.bl true) := by
    have := ninX_lst (t := false) (Cl.int i) (cl_lvs t) (by
      simp only [Bool.false_eq_true, false_iff]
      intro z
      obtain ⟨k, e, h1, h2⟩ := (lvs_mem h).mp z
      cases e
      exact hi ⟨by omega, by omega⟩)
    exact this
  simp! [m_fallen, b_fallen, need_log_ok h, is_number_int, leavings_ok h hl, ni]
theorem rd_no {d : D} (h : RB d false) : m_read [d] = EK.throw ⟨"BadLog", [], []⟩ := by
  simp! [m_read, b_read, h.pg]
end K05


set_option maxHeartbeats 2000000
namespace K05
open PySem PySem.Spec PyProof.Rows L2 EK EKL
abbrev GL (ns : List Int) : Out → Prop := fun o => ∃ a2 a3 a4 a5 a6 a7 a8 a9 a10 a11 a12 a13, o = .next [some (.fz (.scr ns)), some (.fz .drw), a2, a3, a4, a5, a6, a7, a8, a9, a10, a11, a12, a13]
theorem Tr.catch {α : Type} {i : Nat} {m : M α} {P : α → Prop} {k : α → M D} {kx : List Str} {c : Str} {ns : List Str} {xs : List D} (h : Tr i m P) (hk : ∀ a, P a → k a = EK.throw ⟨c, ns, xs⟩) (hc : kx.contains c = true) : Tr i (catchM kx (EK.bnd m k)) fun d => d = .exc c ns xs := fun s o l => by
  obtain ⟨a, s', e, o', t, p⟩ := h s o l
  refine ⟨.exc c ns xs, s', ?_, o', t, rfl⟩
  have e2 : EK.bnd m k s = EK.throw ⟨c, ns, xs⟩ s' := by
    unfold EK.bnd
    rw [e]
    show k a s' = _
    rw [hk a p]
  unfold catchM
  rw [e2]
  show (if kx.contains c = true then _ else _) = _
  rw [if_pos hc]
theorem forget_tr (w : D) (hw : notH w) : Tr 1 (m_law_pick [.drw, .lst [.non, .int 5, w, .str (Str.ofString "forced")]]) fun d => notH d := by
  refine (pick1 (by simp) (by simp)).imp fun d hd => ?_
  simp only [List.mem_cons, List.not_mem_nil, or_false] at hd
  rcases hd with rfl | rfl | rfl | rfl
  · exact rfl
  · exact rfl
  · exact hw
  · exact rfl
theorem restM_tr (ns : List Int) {n w : D} {k : Bool} (r : RB n k) (hw : notH w) (a2 a3 a5 a6 a7 a8 a9 a10 a11 a12 : Option Sl) :
    Tr 1 (restM [some (.fz (.scr ns)), some (.fz .drw), a2, a3, some (.fz w), a5, a6, a7, a8, a9, a10, a11, a12, some (.fz n)]) (GL ns) := by
  have dr : gWord kx (gCall 1 m_read (saC (gv 13) sa0)) 2 b_law_word [some (.fz (.scr ns)), some (.fz .drw), a2, a3, some (.fz w), a5, a6, a7, a8, a9, a10, a11, a12, some (.fz n)] = EK.ret (if k then dT else dL) := by
    cases k with
    | false => exact gw_log (by simp! [rd_no r])
    | true =>
      obtain ⟨rs, rfl, hr, hl⟩ := r.ok rfl
      exact gw_ok (d := .tup [.int (topN rs), lastN rs]) (by simp! [read_ok hr])
  have fo : Tr 1 (gWord kx (gCall 1 m_may_forget (saC (gCall 2 m_law_pick (saC (gv 1) (saC (gLst (saC (fun _ => EK.ret .non) (saC (fun _ => EK.ret (.int 5)) (saC (gv 4) (saC (fun _ => EK.ret (.str "forced")) sa0))))) sa0))) sa0)) 2 b_law_word [some (.fz (.scr ns)), some (.fz .drw), a2, a3, some (.fz w), a5, a6, a7, a8, a9, a10, a11, a12, some (.fz n)]) fun d => d = dH := by
    have e : (gCall 1 m_may_forget (saC (gCall 2 m_law_pick (saC (gv 1) (saC (gLst (saC (fun _ => EK.ret .non) (saC (fun _ => EK.ret (.int 5)) (saC (gv 4) (saC (fun _ => EK.ret (.str "forced")) sa0))))) sa0))) sa0)) [some (.fz (.scr ns)), some (.fz .drw), a2, a3, some (.fz w), a5, a6, a7, a8, a9, a10, a11, a12, some (.fz n)] = EK.bnd (m_law_pick [.drw, .lst [.non, .int 5, w, .str (Str.ofString "forced")]]) fun d => m_may_forget [d] := by simp! []
    rw [gWord, gCaught_def, e]
    refine Tr.le (Tr.bnd (Tr.catch (forget_tr w hw) (fun d hd => f_hand hd) (by decide +kernel)) (j := 0) fun d hd => ?_) (by decide)
    subst hd
    rw [word_hand, noErr_ret]
    exact Tr.ret rfl
  unfold restM
  cases k with
  | false =>
    have lw := r.lw
    simp! [dr, lw, show D.lst [.str (Str.ofString "tape")] = dL from rfl, ne_LL, if_false]
    refine Tr.le (Tr.bnd fo (j := 0) fun d hd => ?_) (by decide)
    subst hd
    simp! [show D.lst [.str (Str.ofString "hand"), .str (Str.ofString "hand")] = dH from rfl, ne_HH]
    exact Tr.ret ⟨_, _, _, _, _, _, _, _, _, _, _, _, rfl⟩
  | true =>
    have lw := r.lw
    simp! [dr, lw, show D.lst [.bl true] = dT from rfl, ne_TT, if_true]
    refine Tr.le (Tr.bnd fo (j := 0) fun d hd => ?_) (by decide)
    subst hd
    simp! [show D.lst [.str (Str.ofString "hand"), .str (Str.ofString "hand")] = dH from rfl, ne_HH]
    exact Tr.ret ⟨_, _, _, _, _, _, _, _, _, _, _, _, rfl⟩
theorem restN_tr (ns : List Int) {d w : D} (h : Item d) (hw : notH w) (a2 a3 a5 a6 a7 a9 a10 a11 a12 a13 : Option Sl) :
    Tr 1 (restN [some (.fz (.scr ns)), some (.fz .drw), a2, a3, some (.fz w), a5, a6, a7, some (.fz d), a9, a10, a11, a12, a13]) (GL ns) := by
  unfold restN
  cases h with
  | flat h =>
    have h' : isiD [] kT d = some (.bl false) := h
    simp! [h']
    exact restM_tr ns (rb_flat h) hw _ _ _ _ _ _ _ _ _ _
  | row h r =>
    rename_i xs k
    have e2 : eqD (.int (xs.length : Int)) (.int 2) = some (.bl false) := by rw [eqD_int, decide_eq_false (by omega)]
    simp! [isiD_tup, lk_T, lenD_tup, e2]
    exact restM_tr ns r hw _ _ _ _ _ _ _ _ _ _
  | two r h =>
    rename_i x y k
    simp! [isiD_tup, lk_T, show lenD [.tup [x, y]] = some (.int 2) from rfl, eqD_int, decide_true, show ixD (.tup [x, y]) (.int 0) = some x from rfl]
    exact restM_tr ns r hw _ _ _ _ _ _ _ _ _ _
theorem leP_int (i j : Int) : leP (.int i) (.int j) = some (.bl (decide (i ≤ j))) := by
  have e : leP (.int i) (.int j) = some (.bl (!PySem.W.dataLt (.int j) (.int i))) := rfl
  rw [e]
  have h := congrFun (congrFun (PySem.W.dataLe_int (fun i : Int => i)) i) j
  have h2 : (!PySem.W.dataLt (.int j) (.int i)) = decide (i ≤ j) := h
  rw [h2]
theorem rp3 {A B : D} (ha : Rp 300 1 A) (hb : Rp 300 1 B) : ∃ z, reprD [.lst [A, B]] = some (.str z) :=
  (Rp.lst (w := 300) (n := 1) (k := 2) (tup2 ha hb) (by simp)).repr (by decide) (by decide)
theorem rpT : Rp 300 1 dT := (Rp.lst (w := 5) (n := 0) (k := 1) (fun d hd => by rw [List.mem_singleton.mp hd]; exact Rp.bl true) (by simp)).mono (by decide) (by decide)
theorem rpL : Rp 300 1 dL := (Rp.lst (w := 80) (n := 0) (k := 1) (fun d hd => by rw [List.mem_singleton.mp hd]; exact (Rp.str (by decide +kernel)).mono (by decide +kernel) (by decide)) (by simp)).mono (by decide) (by decide)
theorem rpF {d : D} (h : Rp 80 0 d) : Rp 300 1 (dF d) := (Rp.lst (w := 80) (n := 0) (k := 2) (tup2 ((Rp.str (by decide +kernel)).mono (by decide +kernel) (by decide)) h) (by simp)).mono (by decide) (by decide)
theorem restT_tr (ns : List Int) {d w : D} (h : Item d) (hw : notH w) (a2 a3 a5 a6 a7 a9 a10 a11 a12 a13 : Option Sl) :
    Tr 3 (restT [some (.fz (.scr ns)), some (.fz .drw), a2, a3, some (.fz w), a5, a6, a7, some (.fz d), a9, a10, a11, a12, a13]) (GL ns) := by
  obtain ⟨k, t⟩ := h.tb
  have ng : negD (.int 1) = some (.int (-1)) := rfl
  unfold restT
  cases k with
  | false =>
    have lw := t.lw
    simp! [lw, ng]
    refine Tr.le (Tr.bnd (pick1 (by simp) (by simp)) (j := 1) fun v hv => ?_) (by decide)
    obtain ⟨z, hz⟩ := rp3 rpL rpL
    have w1 : ∀ G : Sls, G[8]? = some (some (.fz d)) → gWord kx (gCall 1 m_can_leave (saC (gv 8) sa0)) 2 b_law_word G = EK.ret dL := fun G hG => gw_log (by simp! [hG, c_log t])
    have w2 : ∀ G : Sls, G[8]? = some (some (.fz d)) → G[11]? = some (some (.fz v)) → gWord kx (gCall 2 m_fallen (saC (gv 8) (saC (gv 11) sa0))) 2 b_law_word G = EK.ret dL := fun G hG hv => gw_log (by simp! [hG, hv, fl_log t])
    have s1 : 1 < PySem.sizeLine := by rw [sizeLine_eq]; decide
    simp! [w1, w2, s1, show D.lst [.str (Str.ofString "tape")] = dL from rfl, show D.lst [.bl true] = dT from rfl, eq_LT, hz, neS_str, decide_true, Bool.not_true]
    exact restN_tr ns h hw _ _ _ _ _ _ _ _ _ _
  | true =>
    obtain ⟨t', rfl, tl, l1000⟩ := t.ok rfl
    have lw := t.lw
    have hle := tl.le
    simp! [lw, ng]
    refine Tr.le (Tr.bnd (pick1 (by simp) (by simp)) (j := 1) fun v hv => ?_) (by decide)
    have s1 : 1 < PySem.sizeLine := by rw [sizeLine_eq]; decide
    have w1 : ∀ G : Sls, G[8]? = some (some (.fz (eT t'))) → gWord kx (gCall 1 m_can_leave (saC (gv 8) sa0)) 2 b_law_word G = EK.ret dT := fun G hG => gw_ok (d := .lst (lvs t')) (by simp! [hG, can_leave_ok tl l1000])
    have kinds : (m_is_number [v] = EK.ret (.bl false) ∧ Rp 80 0 v) ∨ ∃ i : Int, v = .int i ∧ -1 ≤ i ∧ i ≤ 7 := by
      simp only [List.mem_cons, List.not_mem_nil, or_false] at hv
      rcases hv with rfl | rfl | rfl | rfl | rfl | rfl | rfl | rfl
      · exact .inl ⟨rfl, Rp.non.mono (by decide) (by decide)⟩
      · exact .inr ⟨_, rfl, by decide, by decide⟩
      · exact .inr ⟨_, rfl, by decide, by decide⟩
      · exact .inl ⟨rfl, (Rp.bl true).mono (by decide) (by decide)⟩
      · exact .inl ⟨rfl, (Rp.str (by decide +kernel)).mono (by decide +kernel) (by decide)⟩
      · exact .inr ⟨_, rfl, by decide, by decide⟩
      · exact .inr ⟨_, rfl, by decide, by decide⟩
      · exact .inr ⟨_, rfl, by decide, by decide⟩
    have dTe : D.lst [.bl true] = dT := rfl
    have dFe : D.lst [.str (Str.ofString "rest"), v] = dF v := rfl
    rcases kinds with ⟨nn, rv⟩ | ⟨i, rfl, i1, i2⟩
    · obtain ⟨z, hz⟩ := rp3 rpT (rpF rv)
      have w2 : ∀ G : Sls, G[8]? = some (some (.fz (eT t'))) → G[11]? = some (some (.fz v)) → gWord kx (gCall 2 m_fallen (saC (gv 8) (saC (gv 11) sa0))) 2 b_law_word G = EK.ret (dF v) := fun G hG hv => gw_left (by simp! [hG, hv, fl_non tl nn])
      simp! [w1, w2, s1, dTe, eq_TT, law_number, nn, dFe, hz, neS_str, decide_true, Bool.not_true]
      exact restN_tr ns h hw _ _ _ _ _ _ _ _ _ _
    · have lp : leP (.int (t'.2 : Nat)) (.int i) = some (.bl (decide ((t'.2 : Int) ≤ i))) := leP_int _ _
      have li : leI (.int i) (.int (t'.1.length : Int)) = some (.bl (decide (i ≤ (t'.1.length : Int)))) := rfl
      have rv : Rp 80 0 (.int i) := (Rp.int (by have : i.natAbs < 100 := by omega
                                                exact Nat.lt_trans this (by decide))).mono (by decide) (by decide)
      by_cases c : (t'.2 : Int) ≤ i ∧ i ≤ (t'.1.length : Int)
      · obtain ⟨z, hz⟩ := rp3 rpT rpT
        obtain ⟨j, rfl⟩ : ∃ j : Nat, i = (j : Int) := ⟨i.toNat, by omega⟩
        have w2 : ∀ G : Sls, G[8]? = some (some (.fz (eT t'))) → G[11]? = some (some (.fz (.int (j : Int)))) → gWord kx (gCall 2 m_fallen (saC (gv 8) (saC (gv 11) sa0))) 2 b_law_word G = EK.ret dT := fun G hG hv => gw_ok (d := eT (t'.1.take j, j)) (by simp! [hG, hv, fallen_ok tl l1000 (k := j) (by omega) (by omega)])
        simp! [w1, w2, s1, dTe, eq_TT, law_number, is_number_int, ixT0, ixT1, lenD_tup, List.length_map, lp, decide_eq_true c.1, li, decide_eq_true c.2, hz, neS_str, decide_true, Bool.not_true]
        exact restN_tr ns h hw _ _ _ _ _ _ _ _ _ _
      · obtain ⟨z, hz⟩ := rp3 rpT (rpF rv)
        have w2 : ∀ G : Sls, G[8]? = some (some (.fz (eT t'))) → G[11]? = some (some (.fz (.int i))) → gWord kx (gCall 2 m_fallen (saC (gv 8) (saC (gv 11) sa0))) 2 b_law_word G = EK.ret (dF (.int i)) := fun G hG hv => gw_left (by simp! [hG, hv, fl_num tl l1000 c])
        by_cases c1 : (t'.2 : Int) ≤ i
        · have c2 : ¬ i ≤ (t'.1.length : Int) := fun z => c ⟨c1, z⟩
          simp! [w1, w2, s1, dTe, eq_TT, law_number, is_number_int, ixT0, ixT1, lenD_tup, List.length_map, lp, decide_eq_true c1, li, decide_eq_false c2, dFe, hz, neS_str, decide_true, Bool.not_true]
          exact restN_tr ns h hw _ _ _ _ _ _ _ _ _ _
        · simp! [w1, w2, s1, dTe, eq_TT, law_number, is_number_int, ixT0, ixT1, lenD_tup, List.length_map, lp, decide_eq_false c1, dFe, hz, neS_str, decide_true, Bool.not_true]
          exact restN_tr ns h hw _ _ _ _ _ _ _ _ _ _
theorem restA_tr (ns : List Int) {d w F q : D} {kq : Bool} (h : Item d) (hw : notH w) (hq : NB q kq) (hF : notH F ∨ ∃ p e b, F = hnd p e b ∧ p ∈ words3 ∧ e ∈ words3) (a2 a3 a5 a9 a10 a11 a12 a13 : Option Sl) :
    Tr 3 (restA [some (.fz (.scr ns)), some (.fz .drw), a2, a3, some (.fz w), a5, some (.fz q), some (.fz F), some (.fz d), a9, a10, a11, a12, a13]) (GL ns) := by
  have dHe : D.lst [.str (Str.ofString "hand"), .str (Str.ofString "hand")] = dH := rfl
  have dLe : D.lst [.str (Str.ofString "tape")] = dL := rfl
  have dRe : D.lst [.str (Str.ofString "note")] = dR := rfl
  have dTe : D.lst [.bl true] = dT := rfl
  unfold restA
  rcases hF with hF | ⟨p, e, b, rfl, hp, he⟩
  · have w1 : ∀ G : Sls, G[6]? = some (some (.fz q)) → G[7]? = some (some (.fz F)) → G[8]? = some (some (.fz d)) → gWord kx (gCall 3 m_written (saC (gv 7) (saC (gv 8) (saC (gv 6) sa0)))) 2 b_law_word G = EK.ret dH := fun G h6 h7 h8 => gw_hand (by simp! [h6, h7, h8, w_hand hF])
    have hF' : isiD [("Hand", true)] kit7 F = some (.bl false) := hF
    simp! [hF', w1, dHe, ne_HH]
    exact restT_tr ns h hw _ _ _ _ _ _ _ _ _ _
  · obtain ⟨k, t⟩ := h.tb
    cases k with
    | false =>
      have w1 : ∀ G : Sls, G[6]? = some (some (.fz q)) → G[7]? = some (some (.fz (hnd p e b))) → G[8]? = some (some (.fz d)) → gWord kx (gCall 3 m_written (saC (gv 7) (saC (gv 8) (saC (gv 6) sa0)))) 2 b_law_word G = EK.ret dL := fun G h6 h7 h8 => gw_log (by simp! [h6, h7, h8, w_log p e b t])
      have lw := t.lw
      simp! [isi_hand, lw, w1, dLe, ne_LL]
      exact restT_tr ns h hw _ _ _ _ _ _ _ _ _ _
    | true =>
      obtain ⟨t', rfl, tl, l1000⟩ := t.ok rfl
      have lw := t.lw
      cases kq with
      | false =>
        have w1 : ∀ G : Sls, G[6]? = some (some (.fz q)) → G[7]? = some (some (.fz (hnd p e b))) → G[8]? = some (some (.fz (eT t'))) → gWord kx (gCall 3 m_written (saC (gv 7) (saC (gv 8) (saC (gv 6) sa0)))) 2 b_law_word G = EK.ret dR := fun G h6 h7 h8 => gw_rec (by simp! [h6, h7, h8, w_rec p e b tl hq])
        have ql := hq.lw
        simp! [isi_hand, lw, ql, w1, dRe, ne_RR]
        exact restT_tr ns h hw _ _ _ _ _ _ _ _ _ _
      | true =>
        obtain ⟨r, rfl, hr⟩ := hq.ok rfl
        have ql := hq.lw
        have df := does_fit_ok tl.rs.ok hr
        cases f : fitsB t'.1 r with
        | false =>
          have w1 : ∀ G : Sls, G[6]? = some (some (.fz (eN r))) → G[7]? = some (some (.fz (hnd p e b))) → G[8]? = some (some (.fz (eT t'))) → gWord kx (gCall 3 m_written (saC (gv 7) (saC (gv 8) (saC (gv 6) sa0)))) 2 b_law_word G = EK.ret dR := fun G h6 h7 h8 => gw_rec (by simp! [h6, h7, h8, w_fit p e b tl hr f])
          rw [f] at df
          simp! [isi_hand, lw, ql, ixT0, df, w1, dRe, ne_RR]
          exact restT_tr ns h hw _ _ _ _ _ _ _ _ _ _
        | true =>
          have w1 : ∀ G : Sls, G[6]? = some (some (.fz (eN r))) → G[7]? = some (some (.fz (hnd p e b))) → G[8]? = some (some (.fz (eT t'))) → gWord kx (gCall 3 m_written (saC (gv 7) (saC (gv 8) (saC (gv 6) sa0)))) 2 b_law_word G = EK.ret dT := fun G h6 h7 h8 => gw_ok (d := eT (writtenN p e t' r)) (by simp! [h6, h7, h8, written_ok hp he tl hr f l1000])
          rw [f] at df
          simp! [isi_hand, lw, ql, ixT0, df, w1, dTe, ne_TT]
          exact restT_tr ns h hw _ _ _ _ _ _ _ _ _ _
end K05


namespace K05
open PySem PySem.Spec PyProof.Rows L2 EK EKL
theorem okx : OkN (S "x") := okN_of (by decide +kernel) (by decide +kernel)
theorem oky : OkN (S "y") := okN_of (by decide +kernel) (by decide +kernel)
def fullN : List Note := (List.range 99).map (fun (i : Nat) => Note.pr ((1 + i : Nat) : Int)) ++ (List.range 99).map (fun (i : Nat) => Note.en ((1 + i : Nat) : Int) (S "x"))
theorem full_ok : ∀ r ∈ fullN, NoteOk r := fun r hr => by
  rcases List.mem_append.mp hr with h | h
  · obtain ⟨i, hi, rfl⟩ := List.mem_map.mp h
    have := List.mem_range.mp hi
    exact ⟨by omega, by omega⟩
  · obtain ⟨i, hi, rfl⟩ := List.mem_map.mp h
    have := List.mem_range.mp hi
    exact ⟨⟨by omega, by omega⟩, okx⟩
theorem full_recs : RecsOk fullN := by
  refine ⟨full_ok, ?_⟩
  refine List.pairwise_append.mpr ⟨?_, ?_, ?_⟩
  · rw [List.pairwise_map]
    refine List.pairwise_lt_range.imp fun {a b} h => ⟨fun z => ?_, rfl⟩
    have := Note.pr.inj z
    omega
  · rw [List.pairwise_map]
    refine List.pairwise_lt_range.imp fun {a b} h => ⟨fun z => ?_, ?_⟩
    · have := (Note.en.inj z).1
      omega
    · show (if ((1 + a : Nat) : Int) = ((1 + b : Nat) : Int) then some (decide (S "x" = S "x")) else none : Option Bool).getD true = true
      rw [if_neg (by omega)]; rfl
  · intro o ho r hr
    obtain ⟨i, hi, rfl⟩ := List.mem_map.mp ho
    obtain ⟨j, hj, rfl⟩ := List.mem_map.mp hr
    exact ⟨fun z => (by cases z), rfl⟩
theorem full_len : fullN.length = 198 := by unfold fullN; simp
theorem full_mem : Note.en 5 (S "x") ∈ fullN := List.mem_append_right _ (List.mem_map.mpr ⟨4, List.mem_range.mpr (by decide), rfl⟩)
theorem full_fit : fitsB fullN (.en 5 (S "x")) = true := List.all_eq_true.mpr fun o ho => by
  rcases List.mem_append.mp ho with h | h
  · obtain ⟨i, hi, rfl⟩ := List.mem_map.mp h; rfl
  · obtain ⟨i, hi, rfl⟩ := List.mem_map.mp h
    show (if ((1 + i : Nat) : Int) = 5 then some (decide (S "x" = S "x")) else none : Option Bool).getD true = true
    split <;> simp
theorem full_un : fitsB fullN (.en 5 (S "y")) = false := by
  rw [Bool.eq_false_iff]
  intro z
  have := List.all_eq_true.mp z _ full_mem
  have ne : S "x" ≠ S "y" := by decide +kernel
  have e : fit2 (.en 5 (S "x")) (.en 5 (S "y")) = decide (S "x" = S "y") := rfl
  rw [e, decide_eq_false ne] at this
  cases this
theorem full_top : topN fullN = 99 := by decide +kernel
theorem full_last : lastN fullN = .tup [.int 99, .str (S "x")] := by kernel_rfl
theorem full_twice : RB (.tup ((fullN ++ fullN.take 3).map eN)) false := by
  have ok : ∀ r ∈ fullN ++ fullN.take 3, NoteOk r := fun r hr => by
    rcases List.mem_append.mp hr with h | h
    · exact full_ok r h
    · exact full_ok r (List.mem_of_mem_take h)
  have R := rb_notes (rs := fullN ++ fullN.take 3) (by rw [List.length_append, full_len, List.length_take]; omega) ok fun r hr => by
    obtain ⟨k, hk⟩ := nb_note (ok r hr)
    have e := hk.pg
    rw [is_record_ok (ok r hr)] at e
    have : k = true := by
      have q := congrFun e (ds0 [])
      cases k with
      | true => rfl
      | false => cases q
    rwa [this] at hk
  have f : (fullN ++ fullN.take 3).zipIdx.all (goodAt (fullN ++ fullN.take 3)) = false := by
    rw [Bool.eq_false_iff]
    intro z
    have pw := (recs_of ok z).pw
    have m0 : Note.pr 1 ∈ fullN := List.mem_append_left _ (List.mem_map.mpr ⟨0, List.mem_range.mpr (by decide), rfl⟩)
    have m1 : Note.pr 1 ∈ fullN.take 3 := by decide +kernel
    exact ((List.pairwise_append.mp pw).2.2 _ m0 _ m1).1 rfl
  rwa [f] at R
theorem full_tr : Tr 1 (m_law_full_right [.drw]) fun d => d = .bl true := by
  have r1 : rng2 [.int 1, .int 100] = some ((List.range 99).map fun (i : Nat) => D.int (((1 + i : Nat)) : Int)) := by
    show (if -1000000 ≤ (1 : Int) ∧ (1 : Int) < 1000000 ∧ -1000000 ≤ (100 : Int) ∧ (100 : Int) < 1000000 then some (upFrom 1 (100 - 1 : Int).toNat) else none) = _
    rw [if_pos (by decide)]
    rfl
  have tl : LogOk (fullN, 7) := ⟨full_recs, by rw [full_len]; decide⟩
  have l1000 : fullN.length < 1000 := by rw [full_len]; decide
  have am : ((List.range 99).map fun (i : Nat) => eN (.pr ((1 + i : Nat) : Int))) ++ ((List.range 99).map fun (i : Nat) => eN (.en ((1 + i : Nat) : Int) (S "x"))) = fullN.map eN := by
    unfold fullN
    rw [List.map_append, List.map_map, List.map_map]
    rfl
  have ad : addD (.lst ((List.range 99).map fun (i : Nat) => eN (.pr ((1 + i : Nat) : Int)))) (.lst ((List.range 99).map fun (i : Nat) => eN (.en ((1 + i : Nat) : Int) (S "x")))) = some (.lst (fullN.map eN)) := by
    rw [addD_lst _ _ (by rw [sizeLine_eq]; simp), am]
  simp! [m_law_full_right, b_law_full_right, r1]
  rw [lcM_map (fun (i : Nat) => D.int (((1 + i : Nat)) : Int)) (fun i => eN (.pr ((1 + i : Nat) : Int))) (List.range 99) fun i _ => by
    simp! []
    rfl]
  simp! [r1]
  rw [lcM_map (fun (i : Nat) => D.int (((1 + i : Nat)) : Int)) (fun i => eN (.en ((1 + i : Nat) : Int) (S "x"))) (List.range 99) fun i _ => by
    simp! []
    rfl]
  simp! [ad, show ∀ xs : List D, tupleD [.lst xs] = some (.tup xs) from fun _ => rfl]
  simp! [gMakeD]
  refine Tr.le (Tr.bnd (pick1 (by simp) (by simp)) (j := 0) fun y hy => ?_) (by decide)
  obtain ⟨p, rfl, hp⟩ : ∃ p, y = .str p ∧ p ∈ words3 := by
    simp only [List.mem_cons, List.not_mem_nil, or_false] at hy
    rcases hy with rfl | rfl | rfl
    · exact ⟨_, rfl, .head _⟩
    · exact ⟨_, rfl, .tail _ (.head _)⟩
    · exact ⟨_, rfl, .tail _ (.tail _ (.head _))⟩
  have hf : S "forced" ∈ words3 := .tail _ (.tail _ (.head _))
  have ho : S "at once" ∈ backs2 := .head _
  have hi := hand_init hp hf ho
  have nx : NoteOk (.en 5 (S "x")) := ⟨by decide, okx⟩
  have ny : NoteOk (.en 5 (S "y")) := ⟨by decide, oky⟩
  have w1 : ∀ G : Sls, G[1]? = some (some (.fz (.tup (fullN.map eN)))) → gWord kx (gCall 1 m_read (saC (g2 addD (gv 1) (gSl (gv 1) oNone (oSome (fun _ => EK.ret (.int 3))))) sa0)) 2 b_law_word G = EK.ret dL := fun G hG => gw_log (by
    have e : addD (.tup (fullN.map eN)) (.tup ((fullN.map eN).take 3)) = some (.tup ((fullN ++ fullN.take 3).map eN)) := by
      rw [addD_tup _ _ (by rw [List.length_take, List.length_map, full_len, sizeLine_eq]; decide), List.map_append, List.map_take]
    have ct : cutL (fullN.map eN) none (some 3) = (fullN.map eN).take 3 := cutL_to _ 3
    simp! [hG, ct, e, rd_no full_twice])
  have wo := written_ok (b := S "at once") hp hf tl nx full_fit l1000
  have we : writtenN p (S "forced") (fullN, 7) (.en 5 (S "x")) = (fullN, 7) := by
    unfold writtenN
    rw [if_pos (.inr full_mem)]
  rw [we] at wo
  have w2 : ∀ G : Sls, G[2]? = some (some (.fz (hnd p (S "forced") (S "at once")))) → G[3]? = some (some (.fz (eT (fullN, 7)))) → gWord kx (gCall 3 m_written (saC (gv 2) (saC (gv 3) (saC (EK.gTup (saC (fun _ => EK.ret (.str "entry")) (saC (fun _ => EK.ret (.int 5)) (saC (fun _ => EK.ret (.str "y")) sa0)))) sa0)))) 2 b_law_word G = EK.ret dR := fun G h2 h3 => gw_rec (by
    have := w_fit p (S "forced") (S "at once") tl ny full_un
    simp! [h2, h3]
    exact this)
  have ne1 : neD (.lst [dL]) (.lst [dL]) = some (.bl false) := neD_cl (n := 2) (k := 2) (t := true) (Cl.lst fun d hd => by rw [List.mem_singleton.mp hd]; exact cl_L) (Cl.lst fun d hd => by rw [List.mem_singleton.mp hd]; exact cl_L) (by simp)
  have clT : Cl 3 (eT (fullN, 7)) := Cl.tup (n := 2) (tup2 (Cl.tup (cl_notes full_ok)) ((Cl.int _).mono (by decide)))
  have ne2 : neD (eT (fullN, 7)) (eT (fullN, 7)) = some (.bl false) := neD_cl (t := true) clT clT (by simp)
  have rd := read_ok full_recs
  rw [full_top, full_last] at rd
  have clR : Cl 2 (.tup [.int 99, .tup [.int 99, .str (S "x")]]) := Cl.tup (n := 1) (tup2 ((Cl.int _).mono (by decide)) (Cl.tup (n := 0) (tup2 (Cl.int _) (Cl.str okx.ok))))
  have e3 : eqD (.tup [.int 99, .tup [.int 99, .str (S "x")]]) (.tup [.int 99, .tup [.int 99, .str (S "x")]]) = some (.bl true) := eqD_cl (t := true) clR clR (by simp)
  have cv := can_leave_ok tl l1000
  have as := asI2_lv tl l1000
  rw [show ((fullN, 7).1.length : Int) + 1 = 199 by rw [full_len]; rfl] at as
  have clV : Cl 1 (.lst (lvs (fullN, 7))) := Cl.lst (cl_lvs _)
  have e4 : eqD (.lst (lvs (fullN, 7))) (.lst (lvs (fullN, 7))) = some (.bl true) := eqD_cl (t := true) clV clV (by simp)
  have hE : D.tup [.tup (fullN.map eN), .int 7] = eT (fullN, 7) := rfl
  have hX : D.tup [.str (Str.ofString "entry"), .int 5, .str (Str.ofString "x")] = eN (.en 5 (S "x")) := rfl
  have hH : D.obj (Str.ofString "Hand") ([S "own_promise", S "own_entry", S "own_back"] : List Str) [.str p, .str (S "forced"), .str (S "at once")] = hnd p (S "forced") (S "at once") := rfl
  have as' : asI2 [.int 7, .int 199] = some (lvs (fullN, 7)) := as
  simp! [hi, hE, hH, w1, show D.lst [.str (Str.ofString "tape")] = dL from rfl, ne1, hX, wo, ne2, w2, show D.lst [.str (Str.ofString "note")] = dR from rfl, ne_RR, rd, e3, cv, as', e4]
  exact Tr.ret rfl
theorem item_tape {t : List Note × Nat} (h : LogOk t) (hl : t.1.length < 1000) : Item (eT t) := item_two (by rw [List.length_map]; exact hl) (all_notes h.rs.ok) (.inr ⟨_, rfl⟩)
theorem fit_x {rs : List Note} (h : Xs rs) (n : Int) : fitsB rs (.en n (S "x")) = true := List.all_eq_true.mpr fun o ho => by
  cases o with
  | pr m => rfl
  | en m e =>
    have := h m e ho
    subst this
    show (if m = n then some (decide (S "x" = S "x")) else none : Option Bool).getD true = true
    split <;> simp
theorem fit_p (rs : List Note) (n : Int) : fitsB rs (.pr n) = true := List.all_eq_true.mpr fun o _ => by cases o <;> rfl
theorem law_tr (ns : List Int) (hn : ns.length ≤ 63) : Tr 4000 (m_law ns) fun d => d = .bl true := by
  obtain ⟨k, hk, rk⟩ : ∃ k : Nat, k ≤ 15 ∧ rng1 [.int (3 + (if (12 : Int) < (ns.length : Int) then 12 else (ns.length : Int)))] = some ((List.range k).map fun (i : Nat) => D.int (i : Int)) := by
    by_cases z : (12 : Int) < (ns.length : Int)
    · exact ⟨15, by decide, by rw [if_pos z]; exact rng1_int (by omega) (by decide)⟩
    · exact ⟨3 + ns.length, by omega, by rw [if_neg z]; exact rng1_int (by omega) (by omega)⟩
  have hz : S "lazy" ∈ words3 := .tail _ (.head _)
  have hf : S "forced" ∈ words3 := .tail _ (.tail _ (.head _))
  simp! [m_law, b_law_cut, runL, startL, lenD_scr, show ∀ i j : Int, min2D [.int i, .int j] = some (.int (if j < i then j else i)) from fun _ _ => rfl, rk]
  refine Tr.le (Tr.bnd (Tr.forI 200 (fun (i : Nat) => D.int (i : Int)) (fun i G => ∃ a2 a3 a4 a5 a6 a7 a8 a9 a10 a11 a12 a13, G = [some (.fz (.scr ns)), some (.fz .drw), a2, a3, a4, a5, a6, a7, a8, a9, a10, a11, a12, a13]) k (List.range k) 0 _ (by rw [List.length_range]; omega) ⟨_, _, _, _, _, _, _, _, _, _, _, _, rfl⟩ ?_) (j := 4) ?_) (by rw [List.length_range]; omega)
  · rintro i G x hx hi ⟨a2, a3, a4, a5, a6, a7, a8, a9, a10, a11, a12, a13, rfl⟩
    refine ⟨_, rfl, ?_⟩
    simp! []
    refine Tr.le (Tr.bnd word_pair_tr (j := 150) fun y ⟨p, e, b, hy, hp, he, hb⟩ => ?_) (by decide)
    subst hy
    have hw : notH (.tup [.str p, .str e, .str b]) := rfl
    generalize hW : D.tup [.str p, .str e, .str b] = w at hw
    refine Tr.le (Tr.bnd (take_tr (k := 6) (by omega) (by omega)) (j := 140) fun y ⟨m, e, hm⟩ => ?_) (by decide)
    subst e
    have hm6 : m ≤ 5 := by omega
    simp! [rng1_int (i := (m : Int)) (n := m) rfl (by omega), show D.tup [.tup [], .int 0] = eT ([], 0) from rfl]
    refine Tr.le (Tr.bnd (Tr.forP 6 (fun (i : Nat) => D.int (i : Int)) (fun p G => ∃ (t : List Note × Nat) (a5 a6 : Option Sl), LogOk t ∧ Xs t.1 ∧ t.1.length ≤ p.length ∧ G = [some (.fz (.scr ns)), some (.fz .drw), some (.fz (.int (x : Nat))), some (.fz (eT t)), some (.fz w), a5, a6, a7, a8, a9, a10, a11, a12, a13]) (xs := List.range m) (fun q n r e G I => ?_) (List.range m) [] _ rfl ⟨([], 0), a5, a6, ⟨.nil, Nat.le_refl _⟩, fun _ _ h => (by cases h), Nat.le_refl _, rfl⟩) (j := 80) fun o I => ?_) (by rw [List.length_range]; omega)
    · obtain ⟨t, a5, a6, tl, tx, tn, rfl⟩ := I
      have q5 : q.length ≤ 5 := by
        have : (List.range m).length = q.length + (r.length + 1) := by rw [e]; simp
        rw [List.length_range] at this
        omega
      refine ⟨_, rfl, ?_⟩
      simp! []
      refine Tr.le (Tr.bnd (take_tr (k := 5) (by omega) (by omega)) (j := 5) fun y ⟨i1, e, h1⟩ => ?_) (by decide)
      subst e
      simp! []
      refine Tr.le (Tr.bnd (take_tr (k := 5) (by omega) (by omega)) (j := 4) fun y ⟨i2, e, h2⟩ => ?_) (by decide)
      subst e
      simp! []
      refine Tr.le (Tr.bnd (pick1 (by simp) (by simp)) (j := 2) fun y hy => ?_) (by decide)
      obtain ⟨r', rfl, hr, hf'⟩ : ∃ r', y = eN r' ∧ NoteOk r' ∧ (fitsB t.1 r' = true ∧ ∀ n e, r' = .en n e → e = S "x") := by
        simp only [List.mem_cons, List.not_mem_nil, or_false] at hy
        rcases hy with rfl | rfl
        · exact ⟨.pr (1 + (i1 : Int)), rfl, ⟨by omega, by omega⟩, fit_p _ _, fun _ _ z => (by cases z)⟩
        · exact ⟨.en (1 + (i2 : Int)) (S "x"), rfl, ⟨⟨by omega, by omega⟩, okx⟩, fit_x tx _, fun _ _ z => (by cases z; rfl)⟩
      refine Tr.le (Tr.bnd (pick1 (by simp) (by simp)) (j := 0) fun y hy => ?_) (by decide)
      obtain ⟨f, rfl, hff⟩ : ∃ f, y = .str f ∧ f ∈ words3 := by
        simp only [List.mem_cons, List.not_mem_nil, or_false] at hy
        rcases hy with rfl | rfl
        · exact ⟨_, rfl, hz⟩
        · exact ⟨_, rfl, hf⟩
      have no := noted_ok (p := S "lazy") (e := f) (b := S "at once") hz hff (t := t) tl.rs.ok hr (by omega)
      obtain ⟨tl', tn'⟩ := written_log (p := S "lazy") (e := f) tl hr hf'.1
      have no' : m_law_noted [.tup [.str (Str.ofString "lazy"), .str f, .str (Str.ofString "at once")], eT t, eN r'] = _ := no
      simp! [no']
      refine Tr.ret ⟨_, rfl, writtenN (S "lazy") f t r', _, _, tl', fun n' e' hm' => ?_, by rw [List.length_append]; exact Nat.le_trans tn' (Nat.succ_le_succ tn), rfl⟩
      unfold writtenN at hm'
      split at hm'
      · exact tx n' e' hm'
      · rcases List.mem_append.mp hm' with h | h
        · exact tx n' e' h
        · exact hf'.2 n' e' (List.mem_singleton.mp h).symm
    · obtain ⟨G', rfl, t, a5, a6, tl, tx, tn, rfl⟩ := I
      rw [List.length_range] at tn
      have hi := hand_init hp he hb
      have hH : D.obj (Str.ofString "Hand") ([S "own_promise", S "own_entry", S "own_back"] : List Str) [.str p, .str e, .str b] = hnd p e b := rfl
      have j0 : ixD w (.int 0) = some (.str p) := by rw [← hW]; rfl
      have j1 : ixD w (.int 1) = some (.str e) := by rw [← hW]; rfl
      have j2 : ixD w (.int 2) = some (.str b) := by rw [← hW]; rfl
      have m4 : mulD (.lst [hnd p e b]) (.int 4) = some (.lst [hnd p e b, hnd p e b, hnd p e b, hnd p e b]) := mul_lst [hnd p e b] 4 (by simp) (by decide)
      have a7' : addD (.lst [hnd p e b, hnd p e b, hnd p e b, hnd p e b]) (.lst [.non, .str (Str.ofString "hand"), w]) = some (.lst ([hnd p e b, hnd p e b, hnd p e b, hnd p e b] ++ [.non, .str (Str.ofString "hand"), w])) := addD_lst _ _ (by rw [sizeLine_eq]; simp)
      simp! [j0, j1, j2, hi, hH, m4, a7']
      refine Tr.le (Tr.bnd (pick1 (by simp) (by simp)) (j := 70) fun F hF => ?_) (by decide)
      have hF' : notH F ∨ ∃ p e b, F = hnd p e b ∧ p ∈ words3 ∧ e ∈ words3 := by
        simp only [List.cons_append, List.nil_append, List.mem_cons, List.not_mem_nil, or_false] at hF
        rcases hF with rfl | rfl | rfl | rfl | rfl | rfl | rfl
        · exact .inr ⟨p, e, b, rfl, hp, he⟩
        · exact .inr ⟨p, e, b, rfl, hp, he⟩
        · exact .inr ⟨p, e, b, rfl, hp, he⟩
        · exact .inr ⟨p, e, b, rfl, hp, he⟩
        · exact .inl rfl
        · exact .inl rfl
        · exact .inl hw
      refine Tr.le (Tr.bnd (take_tr (k := 9) (by omega) (by omega)) (j := 60) fun y ⟨i3, e, h3⟩ => ?_) (by decide)
      subst e
      have hnr : NoteOk (.pr (1 + (i3 : Int))) := ⟨by omega, by omega⟩
      simp! [show D.tup [.str (Str.ofString "promise"), .int (1 + (i3 : Int))] = eN (.pr (1 + (i3 : Int))) from rfl]
      refine Tr.le (Tr.bnd (pick1 (by simp) (by simp)) (j := 50) fun y hy => ?_) (by decide)
      obtain ⟨c, rfl, hc⟩ : ∃ c : Nat, y = .int (c : Int) ∧ c ≤ 1 := by
        simp only [List.mem_cons, List.not_mem_nil, or_false] at hy
        rcases hy with rfl | rfl | rfl
        · exact ⟨0, rfl, by decide⟩
        · exact ⟨1, rfl, by decide⟩
        · exact ⟨1, rfl, by decide⟩
      simp! [rng1_int (i := (c : Int)) (n := c) rfl (by omega)]
      refine Tr.le (Tr.bnd (Tr.forP 4 (fun (i : Nat) => D.int (i : Int)) (fun p G => ∃ (d : D) (a9 : Option Sl), Item d ∧ G = [some (.fz (.scr ns)), some (.fz .drw), some (.fz (.int (x : Nat))), some (.fz (eT t)), some (.fz w), a5, some (.fz (eN (.pr (1 + (i3 : Int))))), some (.fz F), some (.fz d), a9, a10, a11, a12, a13]) (xs := List.range c) (fun q n r e G I => ?_) (List.range c) [] _ rfl ⟨eT t, a9, item_tape tl (by omega), rfl⟩) (j := 20) fun o I => ?_) (by rw [List.length_range]; omega)
      · obtain ⟨d, a9, -, rfl⟩ := I
        refine ⟨_, rfl, ?_⟩
        simp! []
        refine Tr.le (Tr.bnd (bent_tr tl (by omega) tx) (j := 0) fun d hd => ?_) (by decide)
        exact Tr.ret ⟨_, rfl, d, _, hd, rfl⟩
      · obtain ⟨G', rfl, d, a9, hd, rfl⟩ := I
        simp! []
        refine Tr.le (Tr.bnd (bent_note_tr hnr) (j := 15) fun q hq => ?_) (by decide)
        refine Tr.le (Tr.bnd (take_tr (k := 5) (by omega) (by omega)) (j := 10) fun y ⟨i4, e, h4⟩ => ?_) (by decide)
        subst e
        simp! []
        refine Tr.le (Tr.bnd (pick1 (by simp) (by simp)) (j := 5) fun y hy => ?_) (by decide)
        obtain ⟨kq, hkq⟩ : ∃ k, NB y k := by
          simp only [List.mem_cons, List.not_mem_nil, or_false] at hy
          rcases hy with rfl | rfl | rfl | rfl
          · exact nb_note hnr
          · exact nb_note hnr
          · exact hq
          · exact nb_note (r := .en (1 + (i4 : Int)) (S "y")) ⟨⟨by omega, by omega⟩, oky⟩
        refine ((restA_tr ns hd hw hkq hF' _ _ _ _ _ _ _ _).le (show 3 ≤ 5 by decide)).imp fun o ⟨b2, b3, b4, b5, b6, b7, b8, b9, b10, b11, b12, b13, e⟩ => ?_
        exact ⟨_, e, b2, b3, b4, b5, b6, b7, b8, b9, b10, b11, b12, b13, rfl⟩
  · rintro o ⟨G', rfl, a2, a3, a4, a5, a6, a7, a8, a9, a10, a11, a12, a13, rfl⟩
    simp! []
    refine Tr.le (Tr.bnd (take_tr (k := 5) (by omega) (by omega)) (j := 2) fun y ⟨m, e, hm⟩ => ?_) (by decide)
    subst e
    by_cases z : (0 : Int) < (m : Int)
    · simp! [show gtI (.int (m : Int)) (.int 0) = some (.bl (decide ((0 : Int) < (m : Int)))) from rfl, decide_eq_true z]
      exact Tr.le (i := 0) (Tr.ret rfl) (Nat.zero_le _)
    · simp! [show gtI (.int (m : Int)) (.int 0) = some (.bl (decide ((0 : Int) < (m : Int)))) from rfl, decide_eq_false z]
      refine Tr.le (Tr.bnd full_tr (j := 0) fun d hd => ?_) (by decide)
      subst hd
      exact Tr.ret rfl
theorem lw : Lw := fun ns hn => by
  obtain ⟨d, s, e, _, _, p⟩ := law_tr ns hn (ds0 ns) (ds0_ok ns) (by show (0 : Int) + 4000 ≤ LIM; unfold LIM; omega)
  subst p
  exact ⟨s, e⟩
end K05
theorem K05.final : PySem.Challenge.rw_electkeep_k05_logs_and_records_refused.Holds := K05.holds_of K05.lw


theorem PySem.Challenge.cw_electkeep_k05_logs_and_records_refused_holds : PySem.Challenge.rw_electkeep_k05_logs_and_records_refused.Holds := by
  exact K05.final
