import PyProof.Rows.All
import Wide.All
import OpenK.AllK
import Wide.FinOn
import HandS.HeadHook4
import HandS.ExcInit
import HandS.EndTab
import HandS.Defaults
import HandS.WordsExc
import HandS.Head0
import HandS.Head1
import HandS.Head2
import HandS.HeadEnd
import HandS.HeadHook1
import HandS.HeadHook2
import HandS.HeadHook3
import HandS.ForMost
import KE.SortData
import KE.DataCmp
import HandS.SetFor
import HandS.Strs
import HandS.ForExc
import HandS.Star
import HandS.Lambda
import KE.KeyNested
import KE.KDictKeyed
import HandS.Walk
import HandS.Zip
import HandS.TupMul
import HandS.TupAny
import HandS.Deep
import HandS.IsInst
import HandS.Text
import HandS.Property
import HandS.SlotsOwn
import HandS.Style
import HandS.CallSlots
import HandS.Dict
import HandS.Iter
import HandS.DictComp
import HandS.More
import HandS.RaiseMore
import KE.KExcSuper
import HandS.ExcValue
import KE.KExcIs
import KE.KIsAll
import HandS.ExcField
import HandS.List
import HandS.Conv
import HandS.MakeKw
import HandS.MakeKwOnly
import PyProof.Draws
import PyProof.EnumMake
import PyProof.TupleIter
import PyProof.P3In
import HandS.ListItems
import HandS.SortKw
import KE.SortKeyed
import HandS.Small
import HandS.TupSets
import KE.DataFind
import HandS.TupLen
import KE.KItemsList
import KE.KDictZip
import KE.KIndexOf
import PyProof.Rows.SortShellAny
import KE.KEqDict
import HandS.Exc
import KE.KExcStr
import PyProof.CollectIter
import PyProof.WalksS
import KE.DataMinMax
import HandS.Finally
import KE.KEqNest
import PyProof.ReprBulk
import PySem.Challenge.RW_electkeep_k59_stages_known_by_hand
set_option Elab.async false
set_option linter.all false
set_option maxRecDepth 100000
set_option maxHeartbeats 4000000
namespace EK
open PySem PySem.Spec PyProof.Rows L2
section
inductive Ty where
  | own (x : Str) | blt (t : String)
def Ty.val (K : PySem.W.Frag) : Ty -> Value
  | .own x => .ref (He.ga K x)
  | .blt t => .type t
inductive Fx where
  | opr (x m : Str)
  | ne (x : Str)
  | isi (x : Str) (t : Ty) (b : Bool)
  | isiT (x : Str) (ts : List Ty) (b : Bool)
  | kits (u : Ty) (tbl : List (String × Bool))
  | kitsT (us : List Ty) (tbl : List (String × Bool))
  | xcl (x : Str)
  | xis (x : Str) (t : Ty) (b : Bool)
  | tupS (x : Str) (zs : List Str)
  | sysd
  | xst (x : Str)
def strsB : List Value -> List Str -> Bool
  | [], [] => true
  | .str x _ :: vs, y :: ys => decide (x = y) && strsB vs ys
  | _, _ => false
def clsB (K : PySem.W.Frag) (C : Addr) : Bool :=
  He.eqO (PySem.W.findIn K (.ref C) "__class__") (some (some (.builtin "object.__class__"))) && (He.eqO (PySem.W.specialIn K (.builtin "object.__class__") "__get__") (some (some (.builtin "getset_descriptor.__get__"))) &&
    (decide (PySem.W.takesIn K (.builtin "object.__class__") = some true) && decide (PySem.W.mroIn K C (.type "object") = some true)))
def Fx.ok (K : PySem.W.Frag) : Fx -> Bool
  | .opr x m => He.eqO (PySem.W.findIn K (.ref (He.ga K x)) m) (some (some (.ref (He.ma K (He.ga K x) m)))) && (PySem.W.isFn K (.ref (He.ma K (He.ga K x) m)) && PySem.W.selfFirst K (He.ga K x))
  | .ne x => He.eqO (PySem.W.findIn K (.ref (He.ga K x)) "__ne__") (some (some (.builtin "object.__ne__"))) && decide (PySem.W.subIn K (.ref (He.ga K x)) (.type "object") = some true)
  | .isi x t b => clsB K (He.ga K x) && decide (PySem.W.kitOne K (.ref (He.ga K x)) (t.val K) = some b)
  | .isiT x ts b => clsB K (He.ga K x) && decide (PySem.W.kitAny K (.ref (He.ga K x)) (ts.map (Ty.val K)) = some b)
  | .kits u tbl => tbl.all fun p => decide (PySem.W.kitOne K (.type p.1) (u.val K) = some p.2)
  | .kitsT us tbl => tbl.all fun p => decide (PySem.W.kitAny K (.type p.1) (us.map (Ty.val K)) = some p.2)
  | .xcl x => clsB K (He.ga K x) && ((PySem.W.clsIn K (He.ga K x)).isSome && (He.eqO (PySem.W.findIn K (.ref (He.ga K x)) "__getattribute__") (some (some (.builtin "BaseException.__getattribute__"))) && (He.eqO (PySem.W.findIn K (.ref (He.ga K x)) "__getattr__") (some none) &&
      (decide (PySem.W.subIn K (.ref (He.ga K x)) (.type "BaseException") = some true) && PySem.W.hasDictIn K (He.ga K x)))))
  | .xis x t b => decide (PySem.W.kitOne K (.ref (He.ga K x)) (t.val K) = some b)
  | .sysd => (match K.lookup sysModules with
    | some o => decide (o.cls = .type "dict")
    | none => false)
  | .xst x => He.eqO (PySem.W.findIn K (.ref (He.ga K x)) "__str__") (some (some (.builtin "BaseException.__str__"))) && decide (PySem.W.subIn K (.ref (He.ga K x)) (.type "BaseException") = some true)
  | .tupS x zs => (match K.lookup (He.ga K x) with
    | some o => (match o.data with
      | .seq its _ => decide (o.cls = .type "tuple") && (decide (its.size <= 1000) && strsB its.toList zs)
      | _ => false)
    | none => false)
abbrev AlX : Type := He.AlD × Bool
def obsX (fa : List He.Fa) (fn : List He.DefD) (fx : List Fx) (K : PySem.W.Frag) : AlX := (He.obsD fa fn K, fx.all fun f => f.ok K)
structure SaysX (fa : List He.Fa) (fn : List He.DefD) (fx : List Fx) (K : PySem.W.Frag) : Prop where
  d : He.SaysD fa fn K
  x : (fx.all fun f => f.ok K) = true
structure GetD where
  cls : Str
  prop : Str
  qual : Str
  params : Arguments
  body : List Stmt
  scope : Scope
def pAd (K : PySem.W.Frag) (c f : Str) : Addr := He.ma K (He.ga K c) f
def gAd (K : PySem.W.Frag) (c f : Str) : Addr := match PySem.W.recIn K (pAd K c f) "property" with
  | some (.ref g :: _) => g
  | _ => 0
def fnA (K : PySem.W.Frag) (a : Addr) : He.FnW := match K.lookup a with
  | some ⟨_, _, .func fd, _⟩ => some (fd.name, fd.qualname, fd.params, fd.body, fd.scope, fd.globals, fd.closure, fd.builtins)
  | _ => none
def GetD.val (d : GetD) : He.FnW := some (d.prop, d.qual, d.params, .stmts d.body, d.scope, mainGlobals, [], builtinsNs)
def isRef : Option (List Value) -> Bool
  | some (.ref _ :: _) => true
  | _ => false
def GetD.okP (K : PySem.W.Frag) (d : GetD) : Bool := He.eqO (PySem.W.findIn K (.ref (He.ga K d.cls)) d.prop) (some (some (.ref (pAd K d.cls d.prop)))) && (He.eqO (PySem.W.specialIn K (.ref (pAd K d.cls d.prop)) "__get__") (some (some (.builtin "property.__get__"))) &&
  (decide (PySem.W.takesIn K (.ref (pAd K d.cls d.prop)) = some true) && isRef (PySem.W.recIn K (pAd K d.cls d.prop) "property")))
def GetD.okF (K : PySem.W.Frag) (d : GetD) : Bool := PySem.W.keepIn K (.ref (gAd K d.cls d.prop)) && (match K.lookup (gAd K d.cls d.prop) with
  | some ⟨_, _, .func fd, _⟩ => PySem.W.codeIn K fd.code d.qual && He.dflB K fd.defaults []
  | _ => false)
abbrev AlY : Type := AlX × Bool × List He.FnW
def obsY (fa : List He.Fa) (fn : List He.DefD) (fx : List Fx) (gt : List GetD) (K : PySem.W.Frag) : AlY := (obsX fa fn fx K, (gt.all fun d => d.okP K) && gt.all fun d => d.okF K, gt.map fun d => fnA K (gAd K d.cls d.prop))
structure SaysY (fa : List He.Fa) (fn : List He.DefD) (fx : List Fx) (gt : List GetD) (K : PySem.W.Frag) : Prop extends SaysX fa fn fx K where
  p : (gt.all fun d => d.okP K) = true
  f : (gt.all fun d => d.okF K) = true
  v : (gt.map fun d => fnA K (gAd K d.cls d.prop)) = gt.map GetD.val
structure SaysZ (fa : List He.Fa) (fn : List He.DefD) (fx : List Fx) (gt : List GetD) (tf : List He.Defn) (h : Heap) (K : PySem.W.Frag) : Prop where
  y : SaysY fa fn fx gt K
  hd : ∀ p ∈ tf, PySem.W.codeHdIn K (He.cT K p).1 (He.cT K p).2 = true
  out : ∀ p ∈ tf, K.lookup (He.cT K p).2 = none
  empty : ∀ p ∈ tf, h.get? (He.cT K p).2 = some { cls := .none, data := .fields #[] }
abbrev AlZ : Type := AlY × Bool
theorem saysZ_of {as : List Addr} {fa : List He.Fa} {fn : List He.DefD} {fx : List Fx} {gt : List GetD} {tf : List He.Defn} {h : Heap} (e : (obsY fa fn fx gt (He.frT h.get? as), He.tabsB h.get? tf (He.frT h.get? as)) = ((((He.valD fn, true), true, gt.map GetD.val), true) : AlZ)) : SaysZ fa fn fx gt tf h (He.frT h.get? as) := by
  have e1 : obsY fa fn fx gt (He.frT h.get? as) = ((He.valD fn, true), true, gt.map GetD.val) := congrArg (fun z : AlZ => z.1) e
  have e2 : He.tabsB h.get? tf (He.frT h.get? as) = true := congrArg (fun z : AlZ => z.2) e
  have ky : ∀ p ∈ tf, PySem.W.codeHdIn (He.frT h.get? as) (He.cT (He.frT h.get? as) p).1 (He.cT (He.frT h.get? as) p).2 = true /\ ∃ o, h.get? (He.cT (He.frT h.get? as) p).2 = some o /\ He.emptyTab o = true := fun p hp => by
    obtain ⟨u3, u4⟩ := He.ba (List.all_eq_true.mp e2 p hp)
    refine ⟨u3, ?_⟩
    cases q : h.get? (He.cT (He.frT h.get? as) p).2 with
    | none => rw [q] at u4; cases u4
    | some o => rw [q] at u4; exact ⟨o, rfl, u4⟩
  exact ⟨⟨⟨congrArg (fun z : AlY => z.1.1) e1, congrArg (fun z : AlY => z.1.2) e1⟩, (He.ba (congrArg (fun z : AlY => z.2.1) e1)).1, (He.ba (congrArg (fun z : AlY => z.2.1) e1)).2, congrArg (fun z : AlY => z.2.2) e1⟩, fun p hp => (ky p hp).1, fun p hp => by
    obtain ⟨_, o, q, z⟩ := ky p hp
    exact He.frT_none q z, fun p hp => by
    obtain ⟨_, o, q, z⟩ := ky p hp
    rw [q, He.emptyTab_eq z]⟩
structure ExcD where
  cls : Str
  fld : Str
  file : Str
  qual : Str
  params : Arguments
  body : List Stmt
  scope : Scope
def oexB (K : PySem.W.Frag) (C : Addr) : Bool := (match K.lookup C with
  | some ⟨.type t, _, .cls cd, sl⟩ => decide (t = "type") && (match cd.mro, sl.toList with
    | .ref C' :: bm, [_, _, _, _, some (.builtin n), _] => decide (C' = C) && (decide (n = "ValueError.__new__") && (!cd.hasDel && (cd.hasDict && PySem.HandSPX.refsVE bm)))
    | _, _ => false)
  | _ => false) && (He.eqO (PySem.W.findIn K (.ref C) "__setattr__") (some (some (.builtin "object.__setattr__"))) && (decide (PySem.W.subIn K (.ref C) (.type "BaseException") = some true) && (decide (PySem.W.typeIn K (.ref C) = some (.type "type")) && PySem.W.keepIn K (.ref C))))
def fileB (vs : Array Value) (file : Str) : Bool := match (vs[2]? : Option Value) with
  | some (.str f _) => decide (f = file)
  | _ => false
def initA (K : PySem.W.Frag) (c : Str) : Addr := He.ma K (He.ga K c) "__init__"
abbrev FnV : Type := Option (Str × Str × Arguments × FuncBody × Scope × Addr × List Str × Addr)
def fnV (K : PySem.W.Frag) (a : Addr) : FnV := match K.lookup a with
  | some ⟨_, _, .func fd, _⟩ => some (fd.name, fd.qualname, fd.params, fd.body, fd.scope, fd.globals, fd.closure.map (·.1), fd.builtins)
  | _ => none
def ExcD.val (d : ExcD) : FnV := some ("__init__", d.qual, d.params, .stmts d.body, d.scope, mainGlobals, ["__class__"], builtinsNs)
def ExcD.ok (K : PySem.W.Frag) (d : ExcD) : Bool := oexB K (He.ga K d.cls) && (He.eqO (PySem.W.findIn K (.ref (He.ga K d.cls)) d.fld) (some none) && (He.eqO (PySem.W.findIn K (.ref (He.ga K d.cls)) "__init__") (some (some (.ref (initA K d.cls)))) &&
  (decide (PySem.W.typeIn K (.ref (initA K d.cls)) = some (.type "function")) && (decide (PySem.W.mroIn K (He.ga K d.cls) (.ref (He.ga K d.cls)) = some true) && (decide (PySem.W.subIn K (.ref (He.ga K d.cls)) (.type "ValueError") = some true) &&
  (He.eqO (PySem.W.ks_superIn K (He.ga K d.cls) (He.ga K d.cls) "__init__") (some (some (.builtin "ValueError.__init__"))) && (He.eqO (PySem.W.nsIn K cStatics "thirdparty.any") (some none) && (He.eqO (PySem.W.nsIn K mainGlobals "super") (some none) &&
  (match K.lookup (initA K d.cls) with
    | some ⟨_, _, .func fd, _⟩ => (match fd.code, fd.closure with
      | .ref cda, [(_, cc)] => (PySem.W.codeIn K (.ref cda) d.qual && He.dflB K fd.defaults []) && ((match K.lookup cda with
        | some ⟨_, _, .fields vs, _⟩ => fileB vs d.file
        | _ => false) && (match K.lookup cc with
        | some ⟨_, _, .cell (some (.ref Q)), _⟩ => decide (Q = He.ga K d.cls)
        | _ => false))
      | _, _ => false)
    | _ => false)))))))))
structure SaysW (fa : List He.Fa) (fn : List He.DefD) (fx : List Fx) (gt : List GetD) (tf : List He.Defn) (xd : List ExcD) (h : Heap) (K : PySem.W.Frag) : Prop where
  z : SaysZ fa fn fx gt tf h K
  x : (xd.all fun d => d.ok K) = true
  v : (xd.map fun d => fnV K (initA K d.cls)) = xd.map ExcD.val
  dj : (tf.map fun p => (He.cT K p).2).Nodup
abbrev AlW : Type := AlZ × Bool × List FnV
def obsV (as : List Addr) (fa : List He.Fa) (fn : List He.DefD) (fx : List Fx) (gt : List GetD) (tf : List He.Defn) (xd : List ExcD) (g : Addr -> Option Obj) : AlW :=
  ((obsY fa fn fx gt (He.frT g as), He.tabsB g tf (He.frT g as)), ((xd.all fun d => d.ok (He.frT g as)) && decide ((tf.map fun p => (He.cT (He.frT g as) p).2).Nodup)), xd.map fun d => fnV (He.frT g as) (initA (He.frT g as) d.cls))
def hookV (as : List Addr) (fa : List He.Fa) (fn : List He.DefD) (fx : List Fx) (gt : List GetD) (tf : List He.Defn) (xd : List ExcD) : PySem.W.Hook where
  α := AlW
  obs := fun s => obsV as fa fn fx gt tf xd s.heap.get?
  val := fun _ => ((((He.valD fn, true), true, gt.map GetD.val), true), true, xd.map ExcD.val)
  says := fun _ h => ∃ K : PySem.W.Frag, K.In h /\ SaysW fa fn fx gt tf xd h K
  of := fun _ s e => ⟨_, He.frT_in, saysZ_of (as := as) (congrArg (fun z : AlW => z.1) e), (He.ba (congrArg (fun z : AlW => z.2.1) e)).1, congrArg (fun z : AlW => z.2.2) e, of_decide_eq_true (He.ba (congrArg (fun z : AlW => z.2.1) e)).2⟩
  keeps := fun _ _ _ ⟨K, hK, c⟩ k => ⟨K, PySem.W.Frag.In.keeps hK k, ⟨⟨c.z.y, c.z.hd, c.z.out, fun p hp => k _ _ (c.z.empty p hp)⟩, c.x, c.v, c.dj⟩⟩
theorem obsV_eq {as : List Addr} {fa : List He.Fa} {fn : List He.DefD} {fx : List Fx} {gt : List GetD} {tf : List He.Defn} {xd : List ExcD} {g : Addr -> Option Obj} {s : Shared} (h : ∀ a, g a = s.heap.get? a) : obsV as fa fn fx gt tf xd g = (hookV as fa fn fx gt tf xd).obs s := by
  have e : g = s.heap.get? := funext h
  rw [e] <;> rfl
abbrev TabQ : Type := Str × List (Str × He.Dv)
def tabsU (K : PySem.W.Frag) (ts : List TabQ) : Bool := ts.all fun t => He.valsB K (He.ga K t.1) t.2
def keysQ (w : World) (ts : List TabQ) : List (Option (List (Option (Str × Int)))) := ts.map fun t => some (He.keysIn w.params (t.2.map (·.1)))
structure SaysU (fa : List He.Fa) (fn : List He.DefD) (fx : List Fx) (gt : List GetD) (tf : List He.Defn) (xd : List ExcD) (ts : List TabQ) (w : World) (h : Heap) (K : PySem.W.Frag) : Prop where
  sw : SaysW fa fn fx gt tf xd h K
  vs : tabsU K ts = true
  ks : (ts.map fun t => He.dicW K (He.ga K t.1)) = keysQ w ts
end
end EK
namespace EKB.K59
open PySem PySem.Spec PyProof.Rows L2 EK
section
abbrev pr := PySem.Challenge.pw_electkeep_k59_stages_known_by_hand
abbrev P : Program := PySem.W.OpenLaw.prog PySem.Challenge.rw_electkeep_k59_stages_known_by_hand
def topS (i : Nat) : Stmt := pr.main.body.getD i (.Pass ⟨0, 0, 0, 0⟩)
def clsS (i j : Nat) : Stmt := (match topS i with | .ClassDef _ _ _ b _ _ _ _ _ _ _ => b | _ => []).getD j (.Pass ⟨0, 0, 0, 0⟩)
abbrev s_law_mixed : Stmt := topS 54
abbrev s_law_take : Stmt := topS 55
abbrev s_law_pick : Stmt := topS 56
abbrev s_law_title : Stmt := topS 59
abbrev s_law_labels : Stmt := topS 58
abbrev s_is_list : Stmt := topS 14
abbrev s_is_name : Stmt := topS 15
abbrev s_are_machines : Stmt := topS 16
abbrev s_is_lot : Stmt := topS 17
abbrev s_are_lots : Stmt := topS 25
abbrev s_in_order : Stmt := topS 18
abbrev s_is_inside : Stmt := topS 20
abbrev s_least_of : Stmt := topS 23
abbrev s_Family___init__ : Stmt := clsS 29 0
abbrev s_law_four : Stmt := topS 60
abbrev s_Family_machines : Stmt := clsS 29 1
abbrev s_Family___len__ : Stmt := clsS 29 9
abbrev s_holds : Stmt := topS 28
abbrev s_Family_enough : Stmt := clsS 29 3
abbrev s_is_usable : Stmt := topS 34
abbrev s_are_pairs : Stmt := topS 33
abbrev s_need_pairs : Stmt := topS 47
abbrev s_is_number : Stmt := topS 13
abbrev s_rows_of : Stmt := topS 49
abbrev s_beginnings : Stmt := topS 41
abbrev s_Family_least : Stmt := clsS 29 2
abbrev s_triples : Stmt := topS 42
abbrev s_between : Stmt := topS 40
abbrev s_do_miss : Stmt := topS 38
abbrev s_missing_lot : Stmt := topS 39
abbrev s_lots_past : Stmt := topS 43
abbrev s_gap_in : Stmt := topS 44
abbrev s_is_right_row : Stmt := topS 48
abbrev s_rows_between : Stmt := topS 50
abbrev s_steps_between : Stmt := topS 51
abbrev s_law_rows_right : Stmt := topS 61
abbrev s_need_stages : Stmt := topS 37
abbrev s_gap : Stmt := topS 46
abbrev s_are_indexes : Stmt := topS 35
abbrev s_Stages___init__ : Stmt := clsS 36 0
abbrev s_are_right : Stmt := topS 45
abbrev s_law_stages_right : Stmt := topS 62
abbrev s_law_said : Stmt := topS 63
abbrev s_law_refused_right : Stmt := topS 64
abbrev s_law : Stmt := topS 65
def d_law_mixed : He.DefD := ⟨("_law_mixed", none), "_law_mixed", "_law_mixed", defArgs s_law_mixed, defBody s_law_mixed, defScope s_law_mixed, [], []⟩
def d_law_take : He.DefD := ⟨("_law_take", none), "_law_take", "_law_take", defArgs s_law_take, defBody s_law_take, defScope s_law_take, [], []⟩
def d_law_pick : He.DefD := ⟨("_law_pick", none), "_law_pick", "_law_pick", defArgs s_law_pick, defBody s_law_pick, defScope s_law_pick, [], []⟩
def d_law_title : He.DefD := ⟨("_law_title", none), "_law_title", "_law_title", defArgs s_law_title, defBody s_law_title, defScope s_law_title, [], []⟩
def d_law_labels : He.DefD := ⟨("_law_labels", none), "_law_labels", "_law_labels", defArgs s_law_labels, defBody s_law_labels, defScope s_law_labels, [], []⟩
def d_is_list : He.DefD := ⟨("is_list", none), "is_list", "is_list", defArgs s_is_list, defBody s_is_list, defScope s_is_list, [], []⟩
def d_is_name : He.DefD := ⟨("is_name", none), "is_name", "is_name", defArgs s_is_name, defBody s_is_name, defScope s_is_name, [], []⟩
def d_are_machines : He.DefD := ⟨("are_machines", none), "are_machines", "are_machines", defArgs s_are_machines, defBody s_are_machines, defScope s_are_machines, [], []⟩
def d_is_lot : He.DefD := ⟨("is_lot", none), "is_lot", "is_lot", defArgs s_is_lot, defBody s_is_lot, defScope s_is_lot, [], []⟩
def d_are_lots : He.DefD := ⟨("are_lots", none), "are_lots", "are_lots", defArgs s_are_lots, defBody s_are_lots, defScope s_are_lots, [], []⟩
def d_in_order : He.DefD := ⟨("in_order", none), "in_order", "in_order", defArgs s_in_order, defBody s_in_order, defScope s_in_order, [], []⟩
def d_is_inside : He.DefD := ⟨("is_inside", none), "is_inside", "is_inside", defArgs s_is_inside, defBody s_is_inside, defScope s_is_inside, [], []⟩
def d_least_of : He.DefD := ⟨("least_of", none), "least_of", "least_of", defArgs s_least_of, defBody s_least_of, defScope s_least_of, [], []⟩
def d_Family___init__ : He.DefD := ⟨("Family", some "__init__"), "__init__", "Family.__init__", defArgs s_Family___init__, defBody s_Family___init__, defScope s_Family___init__, [], []⟩
def d_law_four : He.DefD := ⟨("_law_four", none), "_law_four", "_law_four", defArgs s_law_four, defBody s_law_four, defScope s_law_four, [], []⟩
def d_Family_machines : GetD := ⟨"Family", "machines", "Family.machines", defArgs s_Family_machines, defBody s_Family_machines, defScope s_Family_machines⟩
def d_Family___len__ : He.DefD := ⟨("Family", some "__len__"), "__len__", "Family.__len__", defArgs s_Family___len__, defBody s_Family___len__, defScope s_Family___len__, [], []⟩
def d_holds : He.DefD := ⟨("holds", none), "holds", "holds", defArgs s_holds, defBody s_holds, defScope s_holds, [], []⟩
def d_Family_enough : He.DefD := ⟨("Family", some "enough"), "enough", "Family.enough", defArgs s_Family_enough, defBody s_Family_enough, defScope s_Family_enough, [], []⟩
def d_is_usable : He.DefD := ⟨("is_usable", none), "is_usable", "is_usable", defArgs s_is_usable, defBody s_is_usable, defScope s_is_usable, [], []⟩
def d_are_pairs : He.DefD := ⟨("are_pairs", none), "are_pairs", "are_pairs", defArgs s_are_pairs, defBody s_are_pairs, defScope s_are_pairs, [], []⟩
def d_need_pairs : He.DefD := ⟨("need_pairs", none), "need_pairs", "need_pairs", defArgs s_need_pairs, defBody s_need_pairs, defScope s_need_pairs, [], []⟩
def d_is_number : He.DefD := ⟨("is_number", none), "is_number", "is_number", defArgs s_is_number, defBody s_is_number, defScope s_is_number, [], []⟩
def d_rows_of : He.DefD := ⟨("rows_of", none), "rows_of", "rows_of", defArgs s_rows_of, defBody s_rows_of, defScope s_rows_of, [], []⟩
def d_beginnings : He.DefD := ⟨("beginnings", none), "beginnings", "beginnings", defArgs s_beginnings, defBody s_beginnings, defScope s_beginnings, [], []⟩
def d_Family_least : GetD := ⟨"Family", "least", "Family.least", defArgs s_Family_least, defBody s_Family_least, defScope s_Family_least⟩
def d_triples : He.DefD := ⟨("triples", none), "triples", "triples", defArgs s_triples, defBody s_triples, defScope s_triples, [], []⟩
def d_between : He.DefD := ⟨("between", none), "between", "between", defArgs s_between, defBody s_between, defScope s_between, [], []⟩
def d_do_miss : He.DefD := ⟨("do_miss", none), "do_miss", "do_miss", defArgs s_do_miss, defBody s_do_miss, defScope s_do_miss, [], []⟩
def d_missing_lot : He.DefD := ⟨("missing_lot", none), "missing_lot", "missing_lot", defArgs s_missing_lot, defBody s_missing_lot, defScope s_missing_lot, [], []⟩
def d_lots_past : He.DefD := ⟨("lots_past", none), "lots_past", "lots_past", defArgs s_lots_past, defBody s_lots_past, defScope s_lots_past, [], []⟩
def d_gap_in : He.DefD := ⟨("gap_in", none), "gap_in", "gap_in", defArgs s_gap_in, defBody s_gap_in, defScope s_gap_in, [], []⟩
def d_is_right_row : He.DefD := ⟨("is_right_row", none), "is_right_row", "is_right_row", defArgs s_is_right_row, defBody s_is_right_row, defScope s_is_right_row, [], []⟩
def d_rows_between : He.DefD := ⟨("rows_between", none), "rows_between", "rows_between", defArgs s_rows_between, defBody s_rows_between, defScope s_rows_between, [], []⟩
def d_steps_between : He.DefD := ⟨("steps_between", none), "steps_between", "steps_between", defArgs s_steps_between, defBody s_steps_between, defScope s_steps_between, [], []⟩
def d_law_rows_right : He.DefD := ⟨("_law_rows_right", none), "_law_rows_right", "_law_rows_right", defArgs s_law_rows_right, defBody s_law_rows_right, defScope s_law_rows_right, [], []⟩
def d_need_stages : He.DefD := ⟨("need_stages", none), "need_stages", "need_stages", defArgs s_need_stages, defBody s_need_stages, defScope s_need_stages, [], []⟩
def d_gap : He.DefD := ⟨("gap", none), "gap", "gap", defArgs s_gap, defBody s_gap, defScope s_gap, [], []⟩
def d_are_indexes : He.DefD := ⟨("are_indexes", none), "are_indexes", "are_indexes", defArgs s_are_indexes, defBody s_are_indexes, defScope s_are_indexes, [], []⟩
def d_Stages___init__ : He.DefD := ⟨("Stages", some "__init__"), "__init__", "Stages.__init__", defArgs s_Stages___init__, defBody s_Stages___init__, defScope s_Stages___init__, [], []⟩
def d_are_right : He.DefD := ⟨("are_right", none), "are_right", "are_right", defArgs s_are_right, defBody s_are_right, defScope s_are_right, [], []⟩
def d_law_stages_right : He.DefD := ⟨("_law_stages_right", none), "_law_stages_right", "_law_stages_right", defArgs s_law_stages_right, defBody s_law_stages_right, defScope s_law_stages_right, [], []⟩
def d_law_said : He.DefD := ⟨("_law_said", none), "_law_said", "_law_said", defArgs s_law_said, defBody s_law_said, defScope s_law_said, [], []⟩
def d_law_refused_right : He.DefD := ⟨("_law_refused_right", none), "_law_refused_right", "_law_refused_right", defArgs s_law_refused_right, defBody s_law_refused_right, defScope s_law_refused_right, [], []⟩
def d_law : He.DefD := ⟨("law", none), "law", "law", defArgs s_law, defBody s_law, defScope s_law, [], []⟩
abbrev s_law_begun : Stmt := topS 53
abbrev N_law_begun : List Str := ["_law_script", "_law_wide", "_law_grain"]
theorem sc_law_begun : FnScope N_law_begun ["_law_script"] (defScope s_law_begun) := ⟨rfl, rfl, rfl, by decide +kernel, rfl, by decide +kernel, by decide +kernel⟩
def d_law_begun : He.DefD := ⟨("_law_begun", none), "_law_begun", "_law_begun", defArgs s_law_begun, defBody s_law_begun, defScope s_law_begun, [], []⟩
abbrev s_law_caught : Stmt := topS 57
theorem sc_law_caught : FnScope ["_law_task", "_law_caught_here", "_law_error"] ["_law_task"] (defScope s_law_caught) := ⟨rfl, rfl, rfl, by decide +kernel, rfl, by decide +kernel, by decide +kernel⟩
def d_law_caught : He.DefD := ⟨("_law_caught", none), "_law_caught", "_law_caught", defArgs s_law_caught, defBody s_law_caught, defScope s_law_caught, [], []⟩
def gt : List GetD := [d_Family_machines, d_Family_least]
def fn : List He.DefD := [d_law_mixed, d_law_take, d_law_pick, d_law_title, d_law_labels, d_is_list, d_is_name, d_are_machines, d_is_lot, d_are_lots, d_in_order, d_is_inside, d_least_of, d_Family___init__, d_law_four, d_Family___len__, d_holds, d_Family_enough, d_is_usable, d_are_pairs, d_need_pairs, d_is_number, d_rows_of, d_beginnings, d_triples, d_between, d_do_miss, d_missing_lot, d_lots_past, d_gap_in, d_is_right_row, d_rows_between, d_steps_between, d_law_rows_right, d_need_stages, d_gap, d_are_indexes, d_Stages___init__, d_are_right, d_law_stages_right, d_law_said, d_law_refused_right, d_law, d_law_begun, d_law_caught]
def fa : List He.Fa := [.free "abs", .free "int", .glo "_law_begun", .free "len", .free "min", .free "range", .glo "_law_mixed", .glo "_law_take", .glo "_law_pick", .glo "_law_title", .free "sorted", .glo "_law_labels", .free "list", .free "tuple", .free "isinstance", .glo "is_list", .int "MOST_MACHINES" 5, .free "str", .str "LETTERS" "abcdefghijklmnopqrstuvwxyz", .free "all", .glo "is_name", .free "set", .glo "are_machines", .glo "BadFamily", .int "MOST_LOTS" 32, .free "zip", .glo "is_lot", .glo "are_lots", .glo "Family", .cls "Family", .noat "Family" "own_machines", .glo "in_order", .glo "is_inside", .free "any", .glo "least_of", .noat "Family" "own_least", .mkr "Family", .glo "_law_four", .glo "BadStages", .glo "BadLot", .exc "BadLot", .glo "holds", .meth "Family" "enough", .glo "is_usable", .glo "are_pairs", .int "MOST_FAMILIES" 6, .glo "need_pairs", .free "bool", .glo "is_number", .glo "BadIndex", .int "MOST_STAGES" 4, .glo "BadCount", .glo "rows_of", .glo "beginnings", .glo "triples", .glo "between", .glo "do_miss", .glo "missing_lot", .glo "lots_past", .glo "gap_in", .glo "is_right_row", .glo "rows_between", .glo "steps_between", .glo "_law_rows_right", .glo "Stages", .cls "Stages", .glo "need_stages", .noat "Stages" "st_pairs", .noat "Stages" "st_done", .glo "gap", .glo "are_indexes", .noat "Stages" "st_names", .mkr "Stages", .glo "are_right", .glo "_law_stages_right", .glo "_law_caught", .glo "KeepError", .exm "BadCount" "KeepError" true, .exm "BadFamily" "KeepError" true, .exm "BadIndex" "KeepError" true, .exm "BadLot" "KeepError" true, .exm "BadStages" "KeepError" true, .glo "OtherMachines", .exm "OtherMachines" "KeepError" true, .glo "_law_said", .noat "BadStages" "part", .noat "BadFamily" "part", .noat "BadIndex" "index", .noat "BadCount" "count", .free "repr", .glo "_law_refused_right", .glo "law"]
def fx : List Fx := [.kitsT [.blt "list", .blt "tuple"] [("NoneType", false), ("bool", false), ("int", false), ("str", false), ("tuple", true), ("list", true), ("dict", false)], .kits (.blt "str") [("NoneType", false), ("bool", false), ("int", false), ("str", true), ("tuple", false), ("list", false), ("dict", false)], .kits (.blt "tuple") [("NoneType", false), ("bool", false), ("int", false), ("str", false), ("tuple", true), ("list", false), ("dict", false)], .kits (.own "Family") [("NoneType", false), ("bool", false), ("int", false), ("str", false), ("tuple", false), ("list", false), ("dict", false)], .isi "Family" (.own "Family") true, .opr "Family" "__len__", .kits (.blt "int") [("NoneType", false), ("bool", true), ("int", true), ("str", false), ("tuple", false), ("list", false), ("dict", false)], .kits (.blt "bool") [("NoneType", false), ("bool", true), ("int", false), ("str", false), ("tuple", false), ("list", false), ("dict", false)], .kits (.own "Stages") [("NoneType", false), ("bool", false), ("int", false), ("str", false), ("tuple", false), ("list", false), ("dict", false)], .isi "Stages" (.own "Stages") true, .kits (.own "BadStages") [("NoneType", false), ("bool", false), ("int", false), ("str", false), ("tuple", false), ("list", false), ("dict", false)], .xis "OtherMachines" (.own "BadStages") false, .xcl "OtherMachines", .xis "BadStages" (.own "BadStages") true, .xcl "BadStages", .xis "BadLot" (.own "BadStages") false, .xcl "BadLot", .xis "BadIndex" (.own "BadStages") false, .xcl "BadIndex", .xis "BadFamily" (.own "BadStages") false, .xcl "BadFamily", .xis "BadCount" (.own "BadStages") false, .xcl "BadCount", .kits (.own "BadIndex") [("NoneType", false), ("bool", false), ("int", false), ("str", false), ("tuple", false), ("list", false), ("dict", false)], .xis "OtherMachines" (.own "BadIndex") false, .xis "BadStages" (.own "BadIndex") false, .xis "BadLot" (.own "BadIndex") false, .xis "BadIndex" (.own "BadIndex") true, .xis "BadFamily" (.own "BadIndex") false, .xis "BadCount" (.own "BadIndex") false, .kits (.own "BadCount") [("NoneType", false), ("bool", false), ("int", false), ("str", false), ("tuple", false), ("list", false), ("dict", false)], .xis "OtherMachines" (.own "BadCount") false, .xis "BadStages" (.own "BadCount") false, .xis "BadLot" (.own "BadCount") false, .xis "BadIndex" (.own "BadCount") false, .xis "BadFamily" (.own "BadCount") false, .xis "BadCount" (.own "BadCount") true]
def tf : List He.Defn := [("_law_refused_right", none)]
def lamN (p : He.Defn) : Str := (p.1 ++ ".<locals>.") ++ "<lambda>"
abbrev s_x_BadFamily : Stmt := clsS 3 0
def xd_BadFamily : ExcD := ⟨"BadFamily", "part", P.main.file, "BadFamily.__init__", defArgs s_x_BadFamily, defBody s_x_BadFamily, defScope s_x_BadFamily⟩
abbrev s_x_BadStages : Stmt := clsS 7 0
def xd_BadStages : ExcD := ⟨"BadStages", "part", P.main.file, "BadStages.__init__", defArgs s_x_BadStages, defBody s_x_BadStages, defScope s_x_BadStages⟩
abbrev s_x_BadIndex : Stmt := clsS 8 0
def xd_BadIndex : ExcD := ⟨"BadIndex", "index", P.main.file, "BadIndex.__init__", defArgs s_x_BadIndex, defBody s_x_BadIndex, defScope s_x_BadIndex⟩
abbrev s_x_BadCount : Stmt := clsS 6 0
def xd_BadCount : ExcD := ⟨"BadCount", "count", P.main.file, "BadCount.__init__", defArgs s_x_BadCount, defBody s_x_BadCount, defScope s_x_BadCount⟩
def xd : List ExcD := [xd_BadFamily, xd_BadStages, xd_BadIndex, xd_BadCount]
abbrev R : PySem.W.OpenRow := PySem.W.OpenLaw.row PySem.Challenge.rw_electkeep_k59_stages_known_by_hand
def frs : List Addr := mainGlobals :: cStatics :: [504, 503, 511, 510, 518, 517, 535, 534, 530, 529, 156, 155, 161, 160, 166, 165, 171, 170, 213, 212, 176, 175, 186, 185, 203, 202, 247, 246, 542, 541, 310, 309, 233, 232, 270, 269, 343, 342, 336, 335, 472, 471, 149, 148, 482, 481, 434, 433, 439, 438, 429, 428, 419, 418, 424, 423, 444, 443, 451, 450, 477, 476, 487, 486, 492, 491, 549, 548, 414, 413, 465, 464, 348, 347, 362, 361, 458, 457, 554, 553, 561, 560, 566, 565, 573, 572, 497, 496, 525, 524, 0, 1, 2, 3, 4, 5, 6, 7, 8, 9, 10, 11, 12, 13, 14, 15, 16, 17, 18, 19, 20, 21, 22, 23, 24, 25, 26, 27, 28, 29, 30, 31, 32, 33, 34, 35, 36, 37, 38, 39, 40, 41, 42, 43, 44, 45, 46, 47, 48, 49, 50, 51, 52, 53, 54, 55, 56, 57, 58, 59, 60, 61, 62, 63, 64, 65, 66, 67, 68, 69, 70, 71, 72, 73, 74, 75, 76, 77, 78, 79, 80, 81, 82, 83, 84, 85, 86, 87, 88, 89, 90, 91, 92, 93, 94, 95, 96, 97, 98, 99, 100, 101, 102, 103, 104, 105, 106, 107, 108, 109, 110, 111, 112, 113, 114, 115, 116, 117, 118, 119, 120, 121, 122, 123, 124, 125, 126, 127, 128, 129, 130, 131, 132, 133, 134, 135, 136, 137, 138, 139, 140, 141, 142, 143, 144, 145, 146, 147, 150, 151, 152, 153, 154, 157, 158, 159, 321, 322, 323, 324, 325, 326, 327, 328, 329, 330, 331, 332, 333, 397, 398, 399, 400, 401, 402, 403, 404, 405, 406, 407, 408, 409, 227, 228, 229, 230, 231, 234, 235, 236, 237, 238, 239, 240, 241, 242, 243, 244, 245, 248, 249, 250, 251, 252, 253, 254, 255, 256, 257, 258, 259, 260, 261, 262, 263, 264, 265, 266, 267, 268, 271, 272, 273, 274, 275, 276, 277, 278, 279, 280, 281, 282, 283, 284, 285, 286, 287, 288, 289, 290, 291, 292, 293, 294, 295, 296, 297, 298, 299, 300, 301, 302, 303, 304, 305, 306, 307, 308, 311, 312, 313, 314, 315, 316, 317, 318, 319, 320]
abbrev hk : PySem.W.Hook := hookV frs fa fn fx gt tf xd
def ob (s : PySem.W.SharedT) : AlW := obsV frs fa fn fx gt tf xd (HandSHeadRun.getT s)
theorem ob_eq (s : PySem.W.SharedT) : ob s = hk.obs s.abs := obsV_eq (HandSHeadRun.getT_eq s)
def names0 : List Str := ["_wall", "__name__", "KeepError", "BadFamily", "OtherMachines", "BadLot", "BadCount", "BadStages", "BadIndex", "MOST_MACHINES", "MOST_LOTS", "LETTERS", "is_number", "is_list", "is_name", "are_machines", "is_lot", "in_order", "lots_in_order", "is_inside"]
def names1 : List Str := ["common", "merged", "least_of", "against", "are_lots", "need_family", "need_like", "holds", "Family", "MOST_STAGES", "MOST_FAMILIES", "are_pairs", "is_usable", "are_indexes", "Stages", "need_stages", "do_miss", "missing_lot", "between", "beginnings"]
def names2 : List Str := ["triples", "lots_past", "gap_in", "are_right", "gap", "need_pairs", "is_right_row", "rows_of", "rows_between", "steps_between", "_law_begun", "_law_mixed", "_law_take", "_law_pick", "_law_caught", "_law_labels", "_law_title", "_law_four", "_law_rows_right", "_law_stages_right"]
def names3 : List Str := ["_law_said", "_law_refused_right"]
def names : List Str := names0 ++ names1 ++ names2 ++ names3
set_option maxHeartbeats 0 in
theorem run (w : World) : HandSHeadRun.RunEq R (PySem.W.view R.prog [65]) hk ob 30000 names w := by
  intro os
  kernel_rfl
end
end EKB.K59
namespace EK
open PySem PySem.Spec PyProof.Rows L2
section
theorem each_perm {α β : Type} {R : α -> β -> Prop} {l l' : List α} (p : l'.Perm l) : ∀ {ks : List β}, PySem.W.EachIs R l ks -> ∃ ks', PySem.W.EachIs R l' ks' /\ ks'.Perm ks := by
  induction p with
  | nil => intro ks h; exact ⟨ks, h, .refl _⟩
  | cons x _ ih =>
    intro ks h
    cases h with
    | cons h1 h2 =>
      obtain ⟨ks', a, b⟩ := ih h2
      exact ⟨_, .cons h1 a, .cons _ b⟩
  | swap x y l =>
    intro ks h
    cases h with
    | cons h1 h2 =>
      cases h2 with
      | cons h2 h3 => exact ⟨_, .cons h2 (.cons h1 h3), .swap ..⟩
  | trans _ _ ih1 ih2 =>
    intro ks h
    obtain ⟨k1, a1, b1⟩ := ih2 h
    obtain ⟨k2, a2, b2⟩ := ih1 a1
    exact ⟨k2, a2, b2.trans b1⟩
section
variable {P : Program} {w : World} {κ : Type} [DecidableEq κ] (knd : KeyKind P w κ)
def SetG (h : Heap) (a : Addr) (ks : List κ) : Prop :=
  ∃ o es ep t, h.get? a = some o /\ o.ExactSet /\ o.data = .set es ep t /\ ElemsOf knd es.toList /\ (∃ l, l.Perm ks /\ PySem.W.EachIs (fun e k => knd.is k e.2 = true) es.toList l) /\ ks.Nodup /\
    es.size < scanBound /\ t.fits es.size = true /\ Ris t.place.toList /\ (w.params.followText "set-order" = true \/ t.led = true)
def addK (ks : List κ) (k : κ) : List κ := if k ∈ ks then ks else ks ++ [k]
def dedupK (xs : List κ) : List κ := xs.foldl addK []
variable {knd}
theorem SetG.at {h h' : Heap} {a : Addr} {ks : List κ} (R : SetG knd h a ks) (k : ∀ o, h.get? a = some o -> h'.get? a = some o) : SetG knd h' a ks := by
  obtain ⟨o, es, ep, t, ho, r⟩ := R
  exact ⟨o, es, ep, t, k o ho, r⟩
theorem addK_nodup {ks : List κ} {k : κ} (h : ks.Nodup) : (addK ks k).Nodup := by
  unfold addK
  split
  · exact h
  · rename_i hn
    exact List.nodup_append.mpr ⟨h, List.nodup_cons.mpr ⟨by simp, List.nodup_nil⟩, fun a ha b hb => by
      rw [List.mem_singleton.mp hb]
      exact fun e => hn (e ▸ ha)⟩
variable {A : Around} {E : Value -> Shared -> Prop} {s : Shared} {a : Addr}
theorem setG_tail {g : Bool -> Sem Unit} (hg : ∀ (b : Bool) (s₁ : Shared) (Q' : Unit -> Shared -> Prop), Q' () s₁ -> wpAny (model P w) A (g b) Q' E s₁)
    {o : Obj} {es : Array (Int × Value)} {ep : Nat} {t : SetTable} (ho : s.heap.get? a = some o) (hex : o.ExactSet) (hd : o.data = .set es ep t)
    {es1 : Array (Int × Value)} {t2 : SetTable} {ks : List κ} (g1 : ElemsOf knd es1.toList) (m1 : ∃ l, l.Perm ks /\ PySem.W.EachIs (fun e k => knd.is k e.2 = true) es1.toList l) (nd1 : ks.Nodup)
    (hb1 : es1.size < scanBound) (hf2 : t2.fits es1.size = true) (hr : Ris t2.place.toList) (hl : w.params.followText "set-order" = true \/ t2.led = true) {wasDummy : Bool} {R : Option Bool -> Shared -> Prop}
    (hR : ∀ h', Heap.SameBut a s.heap h' -> SetG knd h' a ks -> R (some true) { s with heap := h' }) :
    wpAny (model P w) A (do
        storeSet a es1 t2
        if (!wasDummy && t2.tooFull) = true then do
            g (relayAll t2 es1 (SetTable.grown es1.size)).2.2
            storeSet a (relayAll t2 es1 (SetTable.grown es1.size)).1 (relayAll t2 es1 (SetTable.grown es1.size)).2.1
            pure (some true)
          else pure (some true)) R E s := by
  refine wpAny_bind (wpAny_storeSet_of ho hd ?_ (fits_of_scanBound hb1))
  have ho1 := store_at (es' := es1) (t' := t2) ho hd
  have sb1 := Heap.SameBut.update s.heap a (Obj.putSet es1 t2)
  split
  · have pm := relayAll_perm t2 es1 (SetTable.grown es1.size)
    have hf3 := relayAll_fits t2 es1 (SetTable.grown es1.size)
    have hr3 := relayAll_ris t2 es1 (SetTable.grown es1.size)
    have hl3 := relayAll_led t2 es1 (SetTable.grown es1.size)
    generalize relayAll t2 es1 (SetTable.grown es1.size) = Z at pm hf3 hr3 hl3 ⊢
    obtain ⟨es2, t3, gave⟩ := Z
    dsimp only at pm hf3 hr3 hl3 ⊢
    have hsz : es2.size = es1.size := by rw [<- Array.length_toList, pm.length_eq, Array.length_toList]
    have hb2 : es2.size < scanBound := by rw [hsz]; exact hb1
    refine wpAny_bind (hg _ _ _ ?_)
    refine wpAny_bind (wpAny_storeSet_of ho1 rfl ?_ (fits_of_scanBound hb2))
    have ho2 := store_at (es' := es2) (t' := t3) ho1 rfl
    refine wpAny_pure (hR _ (sb1.trans (Heap.SameBut.update _ a _)) ?_)
    obtain ⟨l, p1, e1⟩ := m1
    obtain ⟨l', e2, p2⟩ := each_perm pm e1
    exact ⟨_, es2, _, t3, ho2, hex, rfl, fun e he => g1 e (pm.mem_iff.mp he), ⟨l', p2.trans p1, e2⟩, nd1, hb2, hf3, hr3, hl.imp id fun z => by rw [hl3]; exact z⟩
  · exact wpAny_pure (hR _ sb1 ⟨_, es1, _, t2, ho1, hex, rfl, g1, m1, nd1, hb1, hf2, hr, hl⟩)
theorem each_mem {α β : Type} {R : α -> β -> Prop} : ∀ {l : List α} {ks : List β}, PySem.W.EachIs R l ks -> ∀ b ∈ ks, ∃ a ∈ l, R a b
  | _, _, .nil, b, h => by cases h
  | _, _, .cons h1 t, b, h => by
    rcases List.mem_cons.mp h with e | e
    · subst e; exact ⟨_, List.mem_cons_self, h1⟩
    · obtain ⟨x, hx, r⟩ := each_mem t b e
      exact ⟨x, List.mem_cons_of_mem _ hx, r⟩
theorem each_mem' {α β : Type} {R : α -> β -> Prop} : ∀ {l : List α} {ks : List β}, PySem.W.EachIs R l ks -> ∀ a ∈ l, ∃ b ∈ ks, R a b
  | _, _, .nil, b, h => by cases h
  | _, _, .cons h1 t, b, h => by
    rcases List.mem_cons.mp h with e | e
    · subst e; exact ⟨_, List.mem_cons_self, h1⟩
    · obtain ⟨x, hx, r⟩ := each_mem' t b e
      exact ⟨x, List.mem_cons_of_mem _ hx, r⟩
theorem setG_add {k : κ} {x : Value} {ks : List κ} {Q : Bool -> Shared -> Prop} (hkey : knd.is k x = true) (hsc : x.scannable = true) (R : SetG knd s.heap a ks) (room : ks.length + 1 < scanBound)
    (hQ : ∀ b h', Heap.SameBut a s.heap h' -> SetG knd h' a (addK ks k) -> Q b { s with heap := h' }) :
    wpAny (model P w) A (setAddHashed a x (knd.hash k)) Q E s := by
  obtain ⟨o, es, ep, t, ho, hex, hd, g, ⟨l, pl, el⟩, nd, hb, hf, hr, hl⟩ := R
  have hlen : es.size = ks.length := by rw [<- Array.length_toList, el.length, pl.length_eq]
  unfold setAddHashed setAddHashedIn
  refine wpAny_holding (wpAny_bind (wpAny_setState_of ho hd hf ?_))
  dsimp only
  rw [byScan_of hsc hb g]
  simp only [↓reduceIte]
  unfold setAddByScan
  refine wpAny_bind ?_
  refine wpAny_bind (wpAny_rule ?_)
  refine wpAny_bind (wpAny_setScan_of hkey ho hd hf g ?_)
  cases hfi : List.findIdx? (fun e => knd.is k e.2) es.toList with
  | some j =>
    dsimp only
    obtain ⟨hj, pj, _⟩ := List.findIdx?_eq_some_iff_getElem.mp hfi
    have hk : k ∈ ks := by
      obtain ⟨k', hk', r⟩ := each_mem' el _ (List.getElem_mem hj)
      rw [knd.inj _ _ _ pj r]
      exact pl.mem_iff.mp hk'
    refine wpAny_pure (wpAny_pure ?_)
    refine hQ _ s.heap (Heap.SameBut.refl a s.heap) ?_
    rw [addK, if_pos hk]
    exact ⟨o, es, ep, t, ho, hex, hd, g, ⟨l, pl, el⟩, nd, hb, hf, hr, hl⟩
  | none =>
    dsimp only
    have hnk : k ∉ ks := fun z => by
      obtain ⟨e, he, q⟩ := each_mem el k (pl.mem_iff.mpr z)
      have c := List.findIdx?_eq_none_iff.mp hfi e he
      rw [q] at c
      cases c
    have hgw : ∀ (b : Bool) {s₁ : Shared} {Q' : Unit -> Shared -> Prop}, Q' () s₁ -> wpAny (model P w) A (match b with | true => rule "set.scan.the-table-gave-way" | false => pure ()) Q' E s₁ :=
      fun b s₁ Q' q => by cases b <;> first | exact wpAny_pure q | exact wpAny_rule q
    have pm := layNew_perm t es (knd.hash k) x
    have hf1 := layNew_fits t es (knd.hash k) x
    have hr1 := layNew_ris t es (knd.hash k) x hr
    have hl1 := layNew_led t es (knd.hash k) x
    generalize layNew t es (knd.hash k) x = Z at pm hf1 hr1 hl1 ⊢
    obtain ⟨es1, t1, wasDummy, gave⟩ := Z
    dsimp only at pm hf1 hr1 hl1 ⊢
    rw [Array.toList_push] at pm
    have pc : es1.toList.Perm ((knd.hash k, x) :: es.toList) := pm.trans (List.perm_append_singleton _ _)
    have g1 : ElemsOf knd es1.toList := fun e he => by
      rcases List.mem_cons.mp (pc.mem_iff.mp he) with z | z
      · rw [z]; exact ⟨⟨k, hkey, rfl⟩, hsc⟩
      · exact g e z
    have m1 : ∃ l, l.Perm (addK ks k) /\ PySem.W.EachIs (fun e k => knd.is k e.2 = true) es1.toList l := by
      obtain ⟨l', e', p'⟩ := each_perm pc (.cons (b := k) hkey el)
      refine ⟨l', ?_, e'⟩
      rw [addK, if_neg hnk]
      exact p'.trans ((List.Perm.cons k pl).trans (List.perm_append_singleton _ _).symm)
    have hsz : es1.size = ks.length + 1 := by rw [<- Array.length_toList, pc.length_eq, List.length_cons, Array.length_toList, hlen]
    have hb1 : es1.size < scanBound := by rw [hsz]; exact room
    have hled : w.params.followText "set-order" = true \/ t1.led = true := hl.imp id fun z => by rw [hl1]; exact z
    refine wpAny_bind (hgw _ ?_)
    split
    · refine wpAny_bind ?_
      rw [hashByValue_scannable 8 hsc]
      refine wpAny_pure ?_
      refine setG_tail ?_ ho hex hd g1 m1 (addK_nodup nd) hb1 ?_ ?_ ?_ ?_
      · intro b s₁ Q' q; cases b <;> first | exact wpAny_pure q | exact wpAny_rule q
      · first | (split <;> first | exact hf1 | exact SetTable.fits_plain_off hf1) | exact hf1
      · first | (split <;> exact hr1) | exact hr1
      · first | (split <;> exact hled) | exact hled
      · intro h' sb r; dsimp only; exact wpAny_pure (hQ _ h' sb r)
    · refine wpAny_bind (wpAny_pure ?_)
      simp only [↓reduceIte]
      refine setG_tail ?_ ho hex hd g1 m1 (addK_nodup nd) hb1 hf1 hr1 hled ?_
      · intro b s₁ Q' q; cases b <;> first | exact wpAny_pure q | exact wpAny_rule q
      · intro h' sb r; dsimp only; exact wpAny_pure (hQ _ h' sb r)
theorem addK_len (ks : List κ) (k : κ) : (addK ks k).length <= ks.length + 1 := by
  unfold addK
  split
  · omega
  · simp
theorem setG_new {h : Heap} {a : Addr} (ho : h.get? a = some { cls := .type "set", dict := none, data := .set #[] 0 (.fresh 0 0 (!w.params.followText "set-order")) }) : SetG knd h a [] :=
  ⟨_, #[], 0, _, ho, ⟨rfl, rfl, rfl⟩, rfl, (fun e he => by simp at he), ⟨[], .refl _, .nil⟩, List.nodup_nil, (by decide), (by rfl), List.Pairwise.nil, by
    show _ \/ (!w.params.followText "set-order") = true
    cases w.params.followText "set-order"
    · exact .inr rfl
    · exact .inl rfl⟩
theorem setG_loop {I : Addr} {fp wr : List Addr} {G : Array GenState -> Array GenState -> Prop} {n : Nat} {Pv : Nat -> Value -> Prop} {St : Nat -> Shared -> Prop} {R : Result -> Shared -> Prop}
    (W : WalksS P w A.in1 I fp wr G n Pv St) (S : Addr) (hSf : S ∉ fp) (ns : List κ) (hn : n = ns.length) (hb : ns.length + 1 < scanBound) (hval : ∀ i v, Pv i v -> ∃ k, ns[i]? = some k /\ knd.is k v = true /\ v.scannable = true) :
    ∀ (k i : Nat) (s : Shared), n - i = k -> i <= n -> St i s -> (dedupK (ns.take i)).length <= i -> SetG knd s.heap S (dedupK (ns.take i)) ->
      (∀ s', Moved (S :: wr) G s s' -> SetG knd s'.heap S (dedupK ns) -> R (.ok (.ret .none)) s') ->
      codeAny (model P w) A (.builtin "set.update.loop" ⟨[.ref S, .ref I], []⟩) R s := by
  have hSw : S ∉ wr := fun h => hSf (W.sub _ h)
  have hsub : ∀ b ∈ wr, b ∈ S :: wr := fun b hb => List.mem_cons_of_mem _ hb
  intro k
  induction k with
  | zero =>
    intro i s hk' hi hst hc hS hR
    have hin : i = n := by omega
    subst hin
    refine codeAny_builtin F.entry_set_update_loop ?_
    rw [Around.under_plainId F.plain_set_update_loop _]
    show wpAny _ A.in1 (pyNext (.ref I) >>= _) _ _ s
    refine wpAny_bind (W.done s _ _ hst fun s' hm => ?_)
    show wpAny _ A.in1 (PySem.ret Value.none) _ _ s'
    have e : ns.take i = ns := List.take_of_length_le (by omega)
    rw [e] at hS
    exact wpAny_pure (hR s' (hm.mono hsub) (hS.at fun o e => hm.heap S o hSw e))
  | succ k ih =>
    intro i s hk' hi hst hc hS hR
    have hlt : i < n := by omega
    refine codeAny_builtin F.entry_set_update_loop ?_
    rw [Around.under_plainId F.plain_set_update_loop _]
    show wpAny _ A.in1 (pyNext (.ref I) >>= _) _ _ s
    refine wpAny_bind (W.item i s _ _ hlt hst fun v s' hP hst' hm => ?_)
    obtain ⟨z, hz, hkey, hsc⟩ := hval i v hP
    have hS' : SetG knd s'.heap S (dedupK (ns.take i)) := hS.at fun o e => hm.heap S o hSw e
    show wpAny _ A.in1 (holding [v] (setAdd S v) >>= _) _ _ s'
    refine wpAny_bind (wpAny_holding ?_)
    unfold setAdd
    refine wpAny_holding ?_
    refine wpAny_bind (knd.pyHash (k := z) hkey ?_)
    refine setG_add (s := { s' with toks := s'.toks + 1 }) hkey hsc hS' (by omega) fun _ h' hsb hS2 => ?_
    have e3 : addK (dedupK (ns.take i)) z = dedupK (ns.take (i + 1)) := by
      rw [List.take_add_one, hz]
      unfold dedupK
      rw [List.foldl_append]
      rfl
    have hc3 : (dedupK (ns.take (i + 1))).length <= i + 1 := by
      rw [<- e3]
      exact Nat.le_trans (addK_len _ _) (by omega)
    rw [e3] at hS2
    refine wpAny_pure ⟨plainId_quiet F.plain_set_update_loop _, ih (i + 1) _ (by omega) hlt (W.frame _ s' _ _ hst' (Nat.le_succ _) fun b hb o e => ?_) hc3 hS2 fun s'' hm'' hS'' => ?_⟩
    · rw [hsb.2 b (fun h : b = S => hSf (by rw [<- h]; exact hb))]; exact e
    · refine hR s'' (Moved.trans W.gtrans ((hm.mono hsub).then_heap (Nat.le_succ _) fun b o hb e => ?_) hm'') hS''
      rw [hsb.2 b (fun h : b = S => hb (by rw [h]; exact List.mem_cons_self))]; exact e
@[reducible] def newSet (w : World) : Obj := { cls := .type "set", dict := none, data := .set #[] 0 (.fresh 0 0 (!w.params.followText "set-order")) }
theorem each_get {α β : Type} {R : α -> β -> Prop} : ∀ {l : List α} {ks : List β}, PySem.W.EachIs R l ks -> ∀ (i : Nat) (v : α), l[i]? = some v -> ∃ k, ks[i]? = some k /\ R v k
  | _, _, .nil, i, v, h => by simp at h
  | _, _, .cons h1 t, 0, v, h => by simp at h; subst h; exact ⟨_, rfl, h1⟩
  | _, _, .cons h1 t, i + 1, v, h => by
    simp only [List.getElem?_cons_succ] at h ⊢
    exact each_get t i v h
set_option maxRecDepth 100000 in
set_option maxHeartbeats 3200000 in
theorem setG_tuple {l : Addr} {items : Array Value} (ns : List κ) {Q : Value -> Shared -> Prop} (hh : A.handled = none) (hl : s.heap.IsTuple l items)
    (hit : PySem.W.EachIs (fun v k => knd.is k v = true /\ v.scannable = true) items.toList ns) (hb : ns.length + 1 < scanBound)
    (h : ∀ (h' : Heap) (tk : Nat), SetG knd h' s.heap.objs.size (dedupK ns) -> (∀ b o, s.heap.get? b = some o -> h'.get? b = some o) -> Q (.ref s.heap.objs.size) { s with heap := h', toks := tk }) :
    wpAny (model P w) A (call (.type "set") [.ref l]) Q E s := by
  have hisz : items.size = ns.length := by
    have q := hit.length
    rw [Array.length_toList] at q
    exact q
  obtain ⟨c, tl, hmro⟩ := F.called_set.mro
  have hmade := F.called_set.made
  have hsub := F.called_set.sub
  refine wpAny_call (codeAny_of_tree ?_)
  show wpAny _ _ (callAny (.type "set") _) _ _ _
  refine wpAny_pure ⟨Code.quiet_builtin _ (by decide +kernel), codeAny_builtin F.entry_type_call ?_⟩
  rw [Around.under_plain (weight_type_call_type "set" [.ref l] []) rfl]
  have h1 := F.called_set.notType
  have h2 := F.called_set.canCreate
  have hct := F.typeCall_set_1 (.ref l)
  repeat (any_goals (first | assumption | wp_step))
  refine codeAny_mono (code_set_led1 (.ref l) (E := E) (Q₁ := fun obj s₁ => obj = .ref s.heap.objs.size /\ s₁ = { s with heap := s.heap.push (newSet w) }) ⟨rfl, rfl⟩) fun r s₁ hr => ?_
  cases r with
  | error e => exact hr
  | ok fl =>
    cases fl with
    | ret obj =>
      obtain ⟨rfl, rfl⟩ := hr
      have hS : (s.heap.push (newSet w)).get? s.heap.objs.size = some (newSet w) := Heap.get?_push_size _ rfl
      have hT : Shared.TypeIs { s with heap := s.heap.push (newSet w) } (.ref s.heap.objs.size) "set" := ⟨_, hS, rfl⟩
      have hli := F.called_set.init.lookup
      have hbi := F.called_set.init.bind (.ref s.heap.objs.size)
      repeat (any_goals (first | assumption | wp_step))
      refine codeAny_mono (codeAny_call_builtin (R := wants (fun r s₂ => r = .none /\ ∃ h' tk, s₂ = { s with heap := h', toks := tk } /\ SetG knd h' s.heap.objs.size (dedupK ns) /\
          (∀ b o, s.heap.get? b = some o -> h'.get? b = some o)) E) F.called_set.init.plain F.entry_set_init (check_set_init_1 hT ?_)) fun r₂ s₂ hr₂ => ?_
      · obtain ⟨ol, hol, hcl, nl, hdl⟩ := hl
        obtain ⟨ocls, odict, odata, oslots⟩ := ol
        simp only at hcl hdl
        subst hcl; subst hdl
        have hol' : (s.heap.push (newSet w)).get? l = some { cls := .type "tuple", dict := odict, data := .seq items nl, slots := oslots } := Heap.get?_push_of_some _ hol
        have hsls := F.sub_tuple_set
        have hslf := F.sub_tuple_frozenset
        have hne : (Value.type "tuple" == Value.type "dict") = false := by decide
        have hl1 : (s.heap.push (newSet w)).IsTuple l items := ⟨_, hol', rfl, nl, rfl⟩
        unfold newSet at hol' hl1 hT hS ⊢
        unfold Builtin.«set.__init__» noKeywords Builtin.Frozenset.updateFrom
        generalize hPI : pyIter = PI
        wp_walk
        subst hPI
        refine wpAny_pyIter_tuple hl1 ?_
        refine wpAny_bind (wpAny_runValue ?_)
        have hlS : l < s.heap.objs.size := Heap.lt_size hol
        have hh3 : A.in1.in1.in1.handled = none := by simp [hh]
        have hneI : l ≠ (s.heap.push (newSet w)).objs.size := by
          rw [Heap.size_push]; exact Nat.ne_of_lt (Nat.lt_succ_of_lt hlS)
        have hSf : s.heap.objs.size ∉ [(s.heap.push (newSet w)).objs.size, l] := by
          rw [Heap.size_push]; simp only [List.mem_cons, List.mem_singleton, List.not_mem_nil, or_false, not_or]
          exact ⟨Nat.ne_of_lt (Nat.lt_succ_self _), Nat.ne_of_gt hlS⟩
        have hval : ∀ (i : Nat) (v : Value), items[i]? = some v -> ∃ k, ns[i]? = some k /\ knd.is k v = true /\ v.scannable = true := fun i v hv =>
          each_get hit i v (by rw [Array.getElem?_toList]; exact hv)
        refine setG_loop ((Walks.tuple hh3 _ l hneI items).toS) s.heap.objs.size
          hSf ns hisz hb hval (items.size - 0) 0 _ (by omega) (Nat.zero_le _)
          ⟨⟨_, Heap.get?_push_size _ rfl, rfl, rfl⟩, (hl1.push _)⟩ (Nat.le_refl 0) ?hS0 ?hR
        case hS0 =>
          exact setG_new (Heap.get?_push_of_some _ hS)
        case hR =>
          intro s' hm hS'
          obtain ⟨h', g2, d', tk', os'⟩ := s'
          have eg : g2 = s.gens := hm.gens
          have ed : d' = s.drawn := hm.drawn
          have eo : os' = s.os := hm.os
          subst eg; subst ed; subst eo
          show wpAny _ _ _ _ _ _
          refine wpAny_pure ?_
          show wpAny _ _ (PySem.ret Value.none) _ _ _
          refine wpAny_pure ⟨rfl, h', tk', rfl, hS', fun b o e => ?_⟩
          have hb0 : b < s.heap.objs.size := Heap.lt_size e
          have hb1 : b ≠ s.heap.objs.size := Nat.ne_of_lt hb0
          have hb2 : b ≠ (s.heap.push (newSet w)).objs.size := by
            rw [Heap.size_push]; exact Nat.ne_of_lt (Nat.lt_succ_of_lt hb0)
          exact hm.heap b o (by simp only [List.mem_cons, List.mem_singleton, List.not_mem_nil, or_false, not_or]; exact ⟨hb1, hb2⟩) (Heap.get?_push_of_some _ (Heap.get?_push_of_some _ e))
      · cases r₂ with
        | error e => exact hr₂
        | ok fl₂ =>
          cases fl₂ with
          | ret r =>
            obtain ⟨rfl, h', tk, rfl, hS', hk'⟩ := hr₂
            repeat (any_goals (first | assumption | wp_step))
            exact h _ _ hS' hk'
          | _ => exact hr₂.elim
    | _ => exact hr.elim
set_option maxRecDepth 100000 in
set_option maxHeartbeats 3200000 in
theorem setG_list {l : Addr} {items : Array Value} (ns : List κ) {Q : Value -> Shared -> Prop} (hh : A.handled = none) (hl : s.heap.IsList l items)
    (hit : PySem.W.EachIs (fun v k => knd.is k v = true /\ v.scannable = true) items.toList ns) (hb : ns.length + 1 < scanBound)
    (h : ∀ (h' : Heap) (tk : Nat), SetG knd h' s.heap.objs.size (dedupK ns) -> (∀ b o, s.heap.get? b = some o -> h'.get? b = some o) -> Q (.ref s.heap.objs.size) { s with heap := h', toks := tk }) :
    wpAny (model P w) A (call (.type "set") [.ref l]) Q E s := by
  have hisz : items.size = ns.length := by
    have q := hit.length
    rw [Array.length_toList] at q
    exact q
  obtain ⟨c, tl, hmro⟩ := F.called_set.mro
  have hmade := F.called_set.made
  have hsub := F.called_set.sub
  refine wpAny_call (codeAny_of_tree ?_)
  show wpAny _ _ (callAny (.type "set") _) _ _ _
  refine wpAny_pure ⟨Code.quiet_builtin _ (by decide +kernel), codeAny_builtin F.entry_type_call ?_⟩
  rw [Around.under_plain (weight_type_call_type "set" [.ref l] []) rfl]
  have h1 := F.called_set.notType
  have h2 := F.called_set.canCreate
  have hct := F.typeCall_set_1 (.ref l)
  repeat (any_goals (first | assumption | wp_step))
  refine codeAny_mono (code_set_led1 (.ref l) (E := E) (Q₁ := fun obj s₁ => obj = .ref s.heap.objs.size /\ s₁ = { s with heap := s.heap.push (newSet w) }) ⟨rfl, rfl⟩) fun r s₁ hr => ?_
  cases r with
  | error e => exact hr
  | ok fl =>
    cases fl with
    | ret obj =>
      obtain ⟨rfl, rfl⟩ := hr
      have hS : (s.heap.push (newSet w)).get? s.heap.objs.size = some (newSet w) := Heap.get?_push_size _ rfl
      have hT : Shared.TypeIs { s with heap := s.heap.push (newSet w) } (.ref s.heap.objs.size) "set" := ⟨_, hS, rfl⟩
      have hli := F.called_set.init.lookup
      have hbi := F.called_set.init.bind (.ref s.heap.objs.size)
      repeat (any_goals (first | assumption | wp_step))
      refine codeAny_mono (codeAny_call_builtin (R := wants (fun r s₂ => r = .none /\ ∃ h' tk, s₂ = { s with heap := h', toks := tk } /\ SetG knd h' s.heap.objs.size (dedupK ns) /\
          (∀ b o, s.heap.get? b = some o -> h'.get? b = some o)) E) F.called_set.init.plain F.entry_set_init (check_set_init_1 hT ?_)) fun r₂ s₂ hr₂ => ?_
      · obtain ⟨ol, hol, hcl, nl, hdl⟩ := hl
        obtain ⟨ocls, odict, odata, oslots⟩ := ol
        simp only at hcl hdl
        subst hcl; subst hdl
        have hol' : (s.heap.push (newSet w)).get? l = some { cls := .type "list", dict := odict, data := .seq items nl, slots := oslots } := Heap.get?_push_of_some _ hol
        have hsls := F.sub_list_set
        have hslf := F.sub_list_frozenset
        have hne : (Value.type "list" == Value.type "dict") = false := by decide
        have hl1 : (s.heap.push (newSet w)).IsList l items := ⟨_, hol', rfl, nl, rfl⟩
        unfold newSet at hol' hl1 hT hS ⊢
        unfold Builtin.«set.__init__» noKeywords Builtin.Frozenset.updateFrom
        generalize hPI : pyIter = PI
        wp_walk
        subst hPI
        refine wpAny_pyIter_list hl1 ?_
        refine wpAny_bind (wpAny_runValue ?_)
        have hlS : l < s.heap.objs.size := Heap.lt_size hol
        have hh3 : A.in1.in1.in1.handled = none := by simp [hh]
        have hneI : l ≠ (s.heap.push (newSet w)).objs.size := by
          rw [Heap.size_push]; exact Nat.ne_of_lt (Nat.lt_succ_of_lt hlS)
        have hSf : s.heap.objs.size ∉ [(s.heap.push (newSet w)).objs.size, l] := by
          rw [Heap.size_push]; simp only [List.mem_cons, List.mem_singleton, List.not_mem_nil, or_false, not_or]
          exact ⟨Nat.ne_of_lt (Nat.lt_succ_self _), Nat.ne_of_gt hlS⟩
        have hval : ∀ (i : Nat) (v : Value), items[i]? = some v -> ∃ k, ns[i]? = some k /\ knd.is k v = true /\ v.scannable = true := fun i v hv =>
          each_get hit i v (by rw [Array.getElem?_toList]; exact hv)
        refine setG_loop ((Walks.list hh3 _ l hneI items).toS) s.heap.objs.size
          hSf ns hisz hb hval (items.size - 0) 0 _ (by omega) (Nat.zero_le _)
          ⟨⟨_, Heap.get?_push_size _ rfl, rfl, rfl⟩, (hl1.push _)⟩ (Nat.le_refl 0) ?hS0 ?hR
        case hS0 =>
          exact setG_new (Heap.get?_push_of_some _ hS)
        case hR =>
          intro s' hm hS'
          obtain ⟨h', g2, d', tk', os'⟩ := s'
          have eg : g2 = s.gens := hm.gens
          have ed : d' = s.drawn := hm.drawn
          have eo : os' = s.os := hm.os
          subst eg; subst ed; subst eo
          show wpAny _ _ _ _ _ _
          refine wpAny_pure ?_
          show wpAny _ _ (PySem.ret Value.none) _ _ _
          refine wpAny_pure ⟨rfl, h', tk', rfl, hS', fun b o e => ?_⟩
          have hb0 : b < s.heap.objs.size := Heap.lt_size e
          have hb1 : b ≠ s.heap.objs.size := Nat.ne_of_lt hb0
          have hb2 : b ≠ (s.heap.push (newSet w)).objs.size := by
            rw [Heap.size_push]; exact Nat.ne_of_lt (Nat.lt_succ_of_lt hb0)
          exact hm.heap b o (by simp only [List.mem_cons, List.mem_singleton, List.not_mem_nil, or_false, not_or]; exact ⟨hb1, hb2⟩) (Heap.get?_push_of_some _ (Heap.get?_push_of_some _ e))
      · cases r₂ with
        | error e => exact hr₂
        | ok fl₂ =>
          cases fl₂ with
          | ret r =>
            obtain ⟨rfl, h', tk, rfl, hS', hk'⟩ := hr₂
            repeat (any_goals (first | assumption | wp_step))
            exact h _ _ hS' hk'
          | _ => exact hr₂.elim
    | _ => exact hr.elim
end
end
section
abbrev noC : Str := Str.ofString ""
inductive D where
  | non | bl (b : Bool) | int (i : Int) | str (x : Str)
  | tup (xs : List D) | lst (xs : List D)
  | obj (c : Str) (ns : List Str) (xs : List D)
  | drw
  | scr (xs : List Int)
  | dct (ks : List L2.Key) (xs : List D)
  | dcT (ks : List (List L2.Key)) (xs : List D)
  | exc (c : Str) (ns : List Str) (xs : List D)
  | exm (c : Str) (m : Str)
  | dcN (ks : List D) (xs : List D)
  | ptp (xs : List D)
  | mob (c : Str) (ns : List Str) (i : Nat)
mutual
def nkD : D -> Option NestedKey
  | .int i => some (.num i)
  | .str x => some (.text x)
  | .tup ds => (nkDs ds).map .tup
  | _ => none
def nkDs : List D -> Option (List NestedKey)
  | [] => some []
  | d :: ds => (nkD d).bind fun k => (nkDs ds).map fun ks => k :: ks
end
def isTupK : NestedKey -> Bool
  | .tup _ => true
  | _ => false
structure Dr (wd : World) (K : PySem.W.Frag) (mg : Str -> Option Value) where
  a : Addr
  w : Addr
  c : Addr
  o : Addr
  ox : Addr
  tabs : List (Addr × Str)
  ms : List (Addr × Addr × Str × List Str)
  act : Bool
def Dr.has {wd : World} {K : PySem.W.Frag} {mg : Str -> Option Value} (dl : Dr wd K mg) (b : Addr) : Prop := b = dl.a \/ b = dl.w \/ b = dl.c \/ (∃ q, (b, q) ∈ dl.tabs) \/ dl.act = true /\ ∃ q, (b, q) ∈ dl.ms /\ q.2.1 ≠ noC
def ExK (a : Addr) (cls : Value) (d : Option Addr) : HO := .ext fun h => ∃ (oe : Obj) (vs : Array Value), h.get? a = some oe /\ Zc cls d oe /\ oe.data = .fields vs
def ExM (a : Addr) (cls : Value) (t : Addr) : HO := .ext fun h => ∃ (oe : Obj) (vs : Array Value), h.get? a = some oe /\ Zc cls none oe /\ oe.data = .fields vs /\ vs[0]? = some (.ref t)
def entN (w : World) (k : NestedKey) (b : Addr) (u : Value) : DictEntry := { hash := k.hash w, key := .ref b, val := u }
def entsN (w : World) : List NestedKey -> List Addr -> List Value -> List DictEntry
  | k :: ks, b :: bs, u :: us => entN w k b u :: entsN w ks bs us
  | _, _, _ => []
def DkN (w : World) (a : Addr) (ks : List NestedKey) (bs : List Addr) (vs : List V) : HO := .ext fun h => (a == sysModules) = false /\ ∃ (us : List Value) (o : Obj) (es : Array DictEntry) (ep : Nat), Vals vs us /\ h.get? a = some o /\ o.ExactDict /\ o.data = .dict es ep /\ es.toList = entsN w ks bs us
structure DS where
  wide : List Int
  cells : List Int
  rest : Int
  turn : Int
  objs : List (List D)
  live : Bool
section
variable (K : PySem.W.Frag) (mg : Str -> Option Value) {wd : World} (dl : Dr wd K mg) (F : Hp)
mutual
def Rep : D -> V -> Prop
  | .non, v => v = .non
  | .bl b, v => v = .bl b
  | .int i, v => v = .int i
  | .str x, v => v = .str x
  | .tup xs, v => ∃ (a : Addr) (vs : List V), v = .ref a /\ SqT K F a vs /\ vs.length <= sizeLine /\ RepL xs vs
  | .lst xs, v => ∃ (a : Addr) (vs : List V), v = .ref a /\ F a = some (.lst vs) /\ vs.length <= sizeLine /\ RepL xs vs
  | .obj c ns xs, v => ∃ (a dx C : Addr) (vs : List V), v = .ref a /\ mg c = some (.ref C) /\ F a = some (.ins C dx (ns.zip vs)) /\ F dx = some (.own a) /\ ns.length = vs.length /\ RepL xs vs
  | .drw, v => v = .ref dl.a
  | .scr xs, v => ∃ a : Addr, v = .ref a /\ SqL K F a (xs.map V.int) /\ xs.length <= 63
  | .dct ks xs, v => ∃ (a : Addr) (o : Obj) (vs : List V), v = .ref a /\ F a = some (.frz o (.dK (ks.zip vs))) /\ ks.length = vs.length /\ (ks.length <= 1000 /\ ks.Nodup) /\ RepL xs vs
  | .dcT ks xs, v => ∃ (a : Addr) (o : Obj) (vs : List V), v = .ref a /\ F a = some (.frz o (.dT (ks.zip vs))) /\ ks.length = vs.length /\ (ks.length <= 1000 /\ ks.Nodup) /\ RepL xs vs
  | .exc c ns xs, v => ∃ (a C : Addr) (vs : List V), v = .ref a /\ mg c = some (.ref C) /\ ns.length = vs.length /\ ((ns = [] /\ F a = some (ExK a (.ref C) none)) \/ ∃ d, ns ≠ [] /\ F a = some (ExK a (.ref C) (some d)) /\ F d = some (.xd (ns.zip vs))) /\ RepL xs vs
  | .exm c m, v => ∃ (a C t : Addr), v = .ref a /\ mg c = some (.ref C) /\ F a = some (ExM a (.ref C) t) /\ F t = some (.tup [.str m])
  | .dcN ks xs, v => ∃ (a : Addr) (nks : List NestedKey) (bs : List Addr) (vs : List V), v = .ref a /\ F a = some (DkN wd a nks bs vs) /\ (bs.length = nks.length /\ vs.length = nks.length) /\ (nks.length <= 1000 /\ nks.Nodup /\ ∀ k ∈ nks, isTupK k = true /\ k.depth <= 8) /\ nkDs ks = some nks /\ RepL ks (bs.map V.ref) /\ RepL xs vs
  | .ptp xs, v => ∃ (a : Addr) (o : Obj) (vs : List V), v = .ref a /\ F a = some (.frz o (.tup vs)) /\ o.dict = none /\ vs.length <= sizeLine /\ RepL xs vs
  | .mob c ns i, v => ∃ a dx : Addr, dl.ms[i]? = some (a, dx, c, ns) /\ v = .ref a /\ (c = noC -> ∀ q, ns = [q] -> F dx = some (LamX.CodeO dx q))
def RepL : List D -> List V -> Prop
  | [], vs => vs = []
  | d :: ds, vs => ∃ (v : V) (vs' : List V), vs = v :: vs' /\ Rep d v /\ RepL ds vs'
end
end
theorem Same.seqT {K : PySem.W.Frag} {H H' : Hp} {a : Addr} {xs : List V} (e : Same H H') (h : SqT K H a xs) : SqT K H' a xs := by
  rcases h with (h | ⟨o, h⟩) | h
  · exact .inl (.inl (e _ _ h))
  · exact .inl (.inr ⟨o, e _ _ h⟩)
  · exact .inr h
section
variable {K : PySem.W.Frag} {mg : Str -> Option Value} {wd : World} {dl : Dr wd K mg} {F F' : Hp}
mutual
theorem Rep.mono (e : Same F F') : ∀ (d : D) (v : V), Rep K mg dl F d v -> Rep K mg dl F' d v
  | .non, _, h => h
  | .bl _, _, h => h
  | .int _, _, h => h
  | .str _, _, h => h
  | .drw, _, h => h
  | .scr xs, v, h => by
    obtain ⟨a, h1, h2, h3⟩ := h
    exact ⟨a, h1, L2.Same.seq e h2, h3⟩
  | .tup xs, v, h => by
    obtain ⟨a, vs, h1, h2, h3, h4⟩ := h
    exact ⟨a, vs, h1, Same.seqT e h2, h3, RepL.mono e xs vs h4⟩
  | .lst xs, v, h => by
    obtain ⟨a, vs, h1, h2, h3, h4⟩ := h
    exact ⟨a, vs, h1, e _ _ h2, h3, RepL.mono e xs vs h4⟩
  | .obj c ns xs, v, h => by
    obtain ⟨a, dx, C, vs, h1, h2, h3, h4, h5, h6⟩ := h
    exact ⟨a, dx, C, vs, h1, h2, e _ _ h3, e _ _ h4, h5, RepL.mono e xs vs h6⟩
  | .dct ks xs, v, h => by
    obtain ⟨a, o, vs, h1, h2, h3, h4, h5⟩ := h
    exact ⟨a, o, vs, h1, e _ _ h2, h3, h4, RepL.mono e xs vs h5⟩
  | .dcT ks xs, v, h => by
    obtain ⟨a, o, vs, h1, h2, h3, h4, h5⟩ := h
    exact ⟨a, o, vs, h1, e _ _ h2, h3, h4, RepL.mono e xs vs h5⟩
  | .exc c ns xs, v, h => by
    obtain ⟨a, C, vs, h1, h2, h3, h4, h5⟩ := h
    refine ⟨a, C, vs, h1, h2, h3, ?_, RepL.mono e xs vs h5⟩
    rcases h4 with ⟨q1, q2⟩ | ⟨d, q1, q2, q3⟩
    · exact .inl ⟨q1, e _ _ q2⟩
    · exact .inr ⟨d, q1, e _ _ q2, e _ _ q3⟩
  | .exm c m, v, h => by
    obtain ⟨a, C, t, h1, h2, h3, h4⟩ := h
    exact ⟨a, C, t, h1, h2, e _ _ h3, e _ _ h4⟩
  | .dcN ks xs, v, h => by
    obtain ⟨a, nks, bs, vs, h1, h2, h3, h4, h5, h6, h7⟩ := h
    exact ⟨a, nks, bs, vs, h1, e _ _ h2, h3, h4, h5, RepL.mono e ks _ h6, RepL.mono e xs vs h7⟩
  | .ptp xs, v, h => by
    obtain ⟨a, o, vs, h1, h2, h3, h4, h5⟩ := h
    exact ⟨a, o, vs, h1, e _ _ h2, h3, h4, RepL.mono e xs vs h5⟩
  | .mob _ _ _, _, h => by
    obtain ⟨a, dx, h1, h2, h3⟩ := h
    exact ⟨a, dx, h1, h2, fun z q y => e _ _ (h3 z q y)⟩
theorem RepL.mono (e : Same F F') : ∀ (ds : List D) (vs : List V), RepL K mg dl F ds vs -> RepL K mg dl F' ds vs
  | [], _, h => h
  | d :: ds, vs, h => by
    obtain ⟨v, vs', h1, h2, h3⟩ := h
    exact ⟨v, vs', h1, Rep.mono e d v h2, RepL.mono e ds vs' h3⟩
end
mutual
theorem Rep.dl {dl' : Dr wd K mg} (h : dl.a = dl'.a /\ dl.ms = dl'.ms) : ∀ (d : D) (v : V), Rep K mg dl F d v -> Rep K mg dl' F d v
  | .non, _, h => h
  | .bl _, _, h => h
  | .int _, _, h => h
  | .str _, _, h => h
  | .drw, v, q => by
    have q : v = .ref dl.a := q
    show v = .ref dl'.a
    rw [<- h.1]; exact q
  | .scr xs, v, q => q
  | .tup xs, v, q => by
    obtain ⟨a, vs, h1, h2, h3, h4⟩ := q
    exact ⟨a, vs, h1, h2, h3, RepL.dl h xs vs h4⟩
  | .lst xs, v, q => by
    obtain ⟨a, vs, h1, h2, h3, h4⟩ := q
    exact ⟨a, vs, h1, h2, h3, RepL.dl h xs vs h4⟩
  | .obj c ns xs, v, q => by
    obtain ⟨a, dx, C, vs, h1, h2, h3, h4, h5, h6⟩ := q
    exact ⟨a, dx, C, vs, h1, h2, h3, h4, h5, RepL.dl h xs vs h6⟩
  | .dct ks xs, v, q => by
    obtain ⟨a, o, vs, h1, h2, h3, h4, h5⟩ := q
    exact ⟨a, o, vs, h1, h2, h3, h4, RepL.dl h xs vs h5⟩
  | .dcT ks xs, v, q => by
    obtain ⟨a, o, vs, h1, h2, h3, h4, h5⟩ := q
    exact ⟨a, o, vs, h1, h2, h3, h4, RepL.dl h xs vs h5⟩
  | .exc c ns xs, v, q => by
    obtain ⟨a, C, vs, h1, h2, h3, h4, h5⟩ := q
    exact ⟨a, C, vs, h1, h2, h3, h4, RepL.dl h xs vs h5⟩
  | .exm c m, v, q => q
  | .dcN ks xs, v, q => by
    obtain ⟨a, nks, bs, vs, h1, h2, h3, h4, h5, h6, h7⟩ := q
    exact ⟨a, nks, bs, vs, h1, h2, h3, h4, h5, RepL.dl h ks _ h6, RepL.dl h xs vs h7⟩
  | .ptp xs, v, q => by
    obtain ⟨a, o, vs, h1, h2, h3, h4, h5⟩ := q
    exact ⟨a, o, vs, h1, h2, h3, h4, RepL.dl h xs vs h5⟩
  | .mob c ns i, v, q => by
    obtain ⟨a, dx, h1, h2, h3⟩ := q
    exact ⟨a, dx, by rw [<- h.2]; exact h1, h2, h3⟩
theorem RepL.dl {dl' : Dr wd K mg} (h : dl.a = dl'.a /\ dl.ms = dl'.ms) : ∀ (ds : List D) (vs : List V), RepL K mg dl F ds vs -> RepL K mg dl' F ds vs
  | [], _, h => h
  | d :: ds, vs, q => by
    obtain ⟨v, vs', h1, h2, h3⟩ := q
    exact ⟨v, vs', h1, Rep.dl h d v h2, RepL.dl h ds vs' h3⟩
end
def unp : D -> D
  | .ptp xs => .tup xs
  | d => d
theorem Rep.unp : ∀ {d : D} {v : V}, Rep K mg dl F d v -> Rep K mg dl F (EK.unp d) v
  | .ptp xs, v, h => by
    obtain ⟨a, o, vs, h1, h2, h3, h4, h5⟩ := h
    exact ⟨a, vs, h1, .inl (.inr ⟨o, h2⟩), h4, h5⟩
  | .non, _, h => h
  | .bl _, _, h => h
  | .int _, _, h => h
  | .str _, _, h => h
  | .drw, _, h => h
  | .scr _, _, h => h
  | .tup _, _, h => h
  | .lst _, _, h => h
  | .obj _ _ _, _, h => h
  | .dct _ _, _, h => h
  | .dcT _ _, _, h => h
  | .exc _ _ _, _, h => h
  | .exm _ _, _, h => h
  | .dcN _ _, _, h => h
  | .mob _ _ _, _, h => h
theorem RepL.length : ∀ {ds : List D} {vs : List V}, RepL K mg dl F ds vs -> ds.length = vs.length
  | [], _, h => by have h : _ = [] := h; rw [h]; rfl
  | d :: ds, vs, h => by
    obtain ⟨v, vs', h1, h2, h3⟩ := h
    rw [h1, List.length_cons, List.length_cons, RepL.length h3]
theorem RepL.get : ∀ {ds : List D} {vs : List V} {i : Nat} {d : D}, RepL K mg dl F ds vs -> ds[i]? = some d -> ∃ v, vs[i]? = some v /\ Rep K mg dl F d v
  | [], _, _, _, _, e => by simp at e
  | _ :: _, _, 0, _, h, e => by
    obtain ⟨v, vs', h1, h2, h3⟩ := h
    simp at e; subst e; subst h1
    exact ⟨v, rfl, h2⟩
  | _ :: ds, _, i + 1, d, h, e => by
    obtain ⟨v, vs', h1, h2, h3⟩ := h
    subst h1
    obtain ⟨u, q1, q2⟩ := RepL.get (i := i) (d := d) h3 (by simpa using e)
    exact ⟨u, by simpa using q1, q2⟩
theorem RepL.get' : ∀ {ds : List D} {vs : List V} {i : Nat} {v : V}, RepL K mg dl F ds vs -> vs[i]? = some v -> ∃ d, ds[i]? = some d /\ Rep K mg dl F d v
  | [], vs, _, _, h, e => by have h : vs = [] := h; subst h; simp at e
  | _ :: _, _, 0, _, h, e => by
    obtain ⟨v, vs', h1, h2, h3⟩ := h
    subst h1
    simp at e; subst e
    exact ⟨_, rfl, h2⟩
  | _ :: ds, _, i + 1, d, h, e => by
    obtain ⟨v, vs', h1, h2, h3⟩ := h
    subst h1
    obtain ⟨u, q1, q2⟩ := RepL.get' (i := i) h3 (by simpa using e)
    exact ⟨u, by simpa using q1, q2⟩
theorem RepL.append : ∀ {ds es : List D} {vs ws : List V}, RepL K mg dl F ds vs -> RepL K mg dl F es ws -> RepL K mg dl F (ds ++ es) (vs ++ ws)
  | [], _, _, _, h, h' => by have h : _ = [] := h; subst h; exact h'
  | d :: ds, es, _, ws, h, h' => by
    obtain ⟨v, vs', h1, h2, h3⟩ := h
    subst h1
    exact ⟨v, vs' ++ ws, rfl, h2, RepL.append h3 h'⟩
theorem RepL.nil : RepL K mg dl F [] [] := rfl
theorem RepL.cons {d : D} {ds : List D} {v : V} {vs : List V} (h : Rep K mg dl F d v) (t : RepL K mg dl F ds vs) : RepL K mg dl F (d :: ds) (v :: vs) := ⟨v, vs, rfl, h, t⟩
theorem RepL.take : ∀ {ds : List D} {vs : List V} (n : Nat), RepL K mg dl F ds vs -> RepL K mg dl F (ds.take n) (vs.take n)
  | _, _, 0, _ => rfl
  | [], vs, n + 1, h => by have h : vs = [] := h; subst h; rfl
  | d :: ds, vs, n + 1, h => by
    obtain ⟨v, vs', h1, h2, h3⟩ := h
    subst h1
    exact ⟨v, vs'.take n, rfl, h2, RepL.take n h3⟩
theorem RepL.drop : ∀ {ds : List D} {vs : List V} (n : Nat), RepL K mg dl F ds vs -> RepL K mg dl F (ds.drop n) (vs.drop n)
  | _, _, 0, h => h
  | [], vs, n + 1, h => by have h : vs = [] := h; subst h; rfl
  | d :: ds, vs, n + 1, h => by
    obtain ⟨v, vs', h1, h2, h3⟩ := h
    subst h1
    exact RepL.drop n h3
end
structure Exn where
  cls : Str
  ns : List Str
  xs : List D
inductive Res (α : Type) where
  | ok (a : α) | err (x : Exn)
abbrev M (α : Type) := DS -> Option (Res α × DS)
def ret {α : Type} (a : α) : M α := fun s => some (.ok a, s)
def fail {α : Type} : M α := fun _ => none
def throw {α : Type} (x : Exn) : M α := fun s => some (.err x, s)
def bnd {α β : Type} (m : M α) (k : α -> M β) : M β := fun s => match m s with
  | none => none
  | some (.ok a, s') => k a s'
  | some (.err x, s') => some (.err x, s')
@[simp] theorem bnd_ret {α β : Type} (a : α) (k : α -> M β) : bnd (ret a) k = k a := rfl
@[simp] theorem bnd_fail {α β : Type} (k : α -> M β) : bnd (fail : M α) k = fail := rfl
theorem bnd_assoc {α β γ : Type} (m : M α) (k : α -> M β) (l : β -> M γ) : bnd (bnd m k) l = bnd m fun a => bnd (k a) l := by
  funext s
  unfold bnd
  cases m s with
  | none => rfl
  | some p => obtain ⟨r, s'⟩ := p; cases r <;> rfl
def ofO {α : Type} : Option α -> M α
  | none => fail
  | some a => ret a
@[simp] theorem ofO_some {α : Type} (a : α) : ofO (some a) = ret a := rfl
@[simp] theorem ofO_none {α : Type} : ofO (none : Option α) = fail := rfl
def noErr {α : Type} (m : M α) : M α := fun s => match m s with
  | some (.ok a, s') => some (.ok a, s')
  | _ => none
@[simp] theorem noErr_ret {α : Type} (a : α) : noErr (ret a) = ret a := rfl
def DrawOk {wd : World} {K : PySem.W.Frag} {mg : Str -> Option Value} (dl : Dr wd K mg) (H : Hp) (s : DS) : Prop :=
  H dl.a = some (.dK [(Sum.inr "wide", .ref dl.w), (Sum.inr "cells", .ref dl.c), (Sum.inr "rest", .int s.rest), (Sum.inr "turn", .int s.turn)]) /\
    H dl.w = some (.lst (s.wide.map V.int)) /\ H dl.c = some (.lst (s.cells.map V.int)) /\ dl.w ≠ dl.c
def NotTbl (o : HO) : Prop := ∀ ps, o ≠ .tbl ps
def NotCode (o : HO) : Prop := ∀ c q, o ≠ LamX.CodeO c q
structure TabF (T : List (Addr × Str)) (F H : Hp) : Prop where
  at_ : ∀ p ∈ T, ∃ ps : Array Value, H p.1 = some (.tbl ps) /\ TriplesOk ps.toList /\ ∀ (pos : Pos) (cv : Value), codeAmong pos ps.toList = some cv -> ∃ c, cv = .ref c /\ F c = some (LamX.CodeO c p.2)
  nt : ∀ b ps, H b = some (.tbl ps) -> ∃ q, (b, q) ∈ T
  cd : ∀ b c q, H b = some (LamX.CodeO c q) -> F b = some (LamX.CodeO c q)
theorem TabF.mono {T : List (Addr × Str)} {F F' H H' : Hp} (t : TabF T F H) (e : Same F F') (k : ∀ p ∈ T, ∀ ps, H p.1 = some (.tbl ps) -> H' p.1 = some (.tbl ps))
    (n : ∀ b o, H' b = some o -> H b = some o \/ (NotTbl o /\ (NotCode o \/ F' b = some o))) : TabF T F' H' := by
  refine ⟨fun p hp => ?_, fun b ps h => ?_, fun b c q h => ?_⟩
  · obtain ⟨ps, h1, h2, h3⟩ := t.at_ p hp
    refine ⟨ps, k p hp ps h1, h2, fun pos cv hc => ?_⟩
    obtain ⟨c, e1, e2⟩ := h3 pos cv hc
    exact ⟨c, e1, e _ _ e2⟩
  · rcases n b _ h with z | ⟨z, _⟩
    · exact t.nt b ps z
    · exact absurd rfl (z ps)
  · rcases n b _ h with z | ⟨_, z | z⟩
    · exact e _ _ (t.cd b c q z)
    · exact absurd rfl (z c q)
    · exact z
theorem TabF.upd {T : List (Addr × Str)} {F F' H : Hp} {p : Addr} {o : HO} (t : TabF T F H) (e : Same F F') (hp : ∀ q ∈ T, q.1 ≠ p) (ho : NotTbl o) (hc : NotCode o \/ F' p = some o) : TabF T F' (upd H p o) :=
  t.mono e (fun q hq ps z => by rw [upd_ne (hp q hq)]; exact z) fun b u z => by
    by_cases h : b = p
    · subst h
      rw [upd_same] at z
      cases z
      exact .inr ⟨ho, hc⟩
    · rw [upd_ne h] at z
      exact .inl z
structure ObA {wd : World} {K : PySem.W.Frag} {mg : Str -> Option Value} (dl : Dr wd K mg) (F H : Hp) (objs : List (List D)) : Prop where
  len : dl.ms.length = objs.length
  at_ : ∀ (i : Nat) (a dx : Addr) (c : Str) (ns : List Str) (xs : List D), c ≠ noC -> dl.ms[i]? = some (a, dx, c, ns) -> objs[i]? = some xs ->
    ∃ (C : Addr) (us : List V), mg c = some (.ref C) /\ H a = some (.ins C dx (ns.zip us)) /\ F dx = some (.own a) /\ ns.length = us.length /\ ns.length <= 900 /\ RepL K mg dl F xs us
  nd : ∀ (i j : Nat) (a : Addr) (q q' : Addr × Str × List Str), dl.ms[i]? = some (a, q) -> dl.ms[j]? = some (a, q') -> q.2.1 ≠ noC -> q'.2.1 ≠ noC -> i = j
def ObOk {wd : World} {K : PySem.W.Frag} {mg : Str -> Option Value} (dl : Dr wd K mg) (F H : Hp) (s : DS) : Prop := (s.live = true -> dl.act = true) /\ (dl.act = true -> ObA dl F H s.objs)
theorem ObOk.there {wd : World} {K : PySem.W.Frag} {mg : Str -> Option Value} {dl : Dr wd K mg} {F H : Hp} {s : DS} (h : ObOk dl F H s) {b : Addr} {q : Addr × Str × List Str} (ac : dl.act = true) (m : (b, q) ∈ dl.ms) (hq : q.2.1 ≠ noC) : ∃ C dx fs, H b = some (.ins C dx fs) := by
  have h := h.2 ac
  obtain ⟨i, hi, e⟩ := List.mem_iff_getElem.mp m
  have l := h.len
  obtain ⟨dx, c, ns⟩ := q
  have e1 : dl.ms[i]? = some (b, dx, c, ns) := by rw [List.getElem?_eq_getElem hi, e]
  obtain ⟨C, us, _, z, _⟩ := h.at_ i b dx c ns s.objs[i] hq e1 (by rw [List.getElem?_eq_getElem])
  exact ⟨C, dx, _, z⟩
theorem ObOk.mono {wd : World} {K : PySem.W.Frag} {mg : Str -> Option Value} {dl : Dr wd K mg} {F F' H H' : Hp} {s : DS} (h : ObOk dl F H s) (e : Same F F') (k : dl.act = true -> ∀ b q, (b, q) ∈ dl.ms -> q.2.1 ≠ noC -> H' b = H b) : ObOk dl F' H' s := ⟨h.1, fun ac =>
  have h := h.2 ac
  ⟨h.len, fun i a dx c ns xs hq e1 e2 => by
    obtain ⟨C, us, h1, h2, h3, h4, h5, h6⟩ := h.at_ i a dx c ns xs hq e1 e2
    exact ⟨C, us, h1, by rw [k ac a _ (List.mem_of_getElem? e1) hq]; exact h2, e _ _ h3, h4, h5, RepL.mono e _ _ h6⟩, h.nd⟩⟩
theorem ObOk.new {wd : World} {K : PySem.W.Frag} {mg : Str -> Option Value} {dl : Dr wd K mg} {F F' H : Hp} {p : Addr} {o : HO} {s : DS} (h : ObOk dl F H s) (e : Same F F') (n : H p = none) : ObOk dl F' (upd H p o) s :=
  h.mono e fun ac b q m hq => by
    obtain ⟨C, dx, fs, z⟩ := h.there ac m hq
    exact upd_ne (ne_of_none z n)
theorem ObOk.set {wd : World} {K : PySem.W.Frag} {mg : Str -> Option Value} {dl : Dr wd K mg} {F F' H : Hp} {p : Addr} {o : HO} {s : DS} (h : ObOk dl F H s) (e : Same F F') (n : dl.act = true -> ∀ q, q.2.1 ≠ noC -> (p, q) ∉ dl.ms) : ObOk dl F' (upd H p o) s :=
  h.mono e fun ac b q m hq => upd_ne fun z => n ac q hq (by rw [<- z]; exact m)
structure Wd {wd : World} {K : PySem.W.Frag} {mg : Str -> Option Value} (dl : Dr wd K mg) (F H : Hp) (s : DS) : Prop where
  sub : Same F H
  off : ∀ b, dl.has b -> F b = none
  dr : DrawOk dl H s
  tb : TabF dl.tabs F H
  ob : ObOk dl F H s
structure Step {wd : World} {K : PySem.W.Frag} {mg : Str -> Option Value} (dl : Dr wd K mg) (F H F' H' : Hp) : Prop where
  fs : Same F F'
  hs : ∀ b o, ¬ dl.has b -> H b = some o -> H' b = some o
  nw : ∀ b o, F' b = some o -> F b = some o \/ H b = none
  al : ∀ b, H' b = none -> H b = none
theorem Step.refl {wd : World} {K : PySem.W.Frag} {mg : Str -> Option Value} {dl : Dr wd K mg} {F H : Hp} : Step dl F H F H := ⟨fun _ _ h => h, fun _ _ _ h => h, fun _ _ h => .inl h, fun _ h => h⟩
theorem Step.trans {wd : World} {K : PySem.W.Frag} {mg : Str -> Option Value} {dl : Dr wd K mg} {F H F1 H1 F2 H2 : Hp} (a : Step dl F H F1 H1) (b : Step dl F1 H1 F2 H2) : Step dl F H F2 H2 :=
  ⟨fun c o h => b.fs c o (a.fs c o h), fun c o n h => b.hs c o n (a.hs c o n h), fun c o h => by
    rcases b.nw c o h with q | q
    · exact a.nw c o q
    · exact .inr (a.al c q), fun c h => a.al c (b.al c h)⟩
theorem Wd.na {wd : World} {K : PySem.W.Frag} {mg : Str -> Option Value} {dl : Dr wd K mg} {F H : Hp} {s : DS} (w : Wd dl F H s) {p : Addr} (h : H p = none) : ¬ dl.has p := fun z => by
  obtain ⟨h1, h2, h3, _⟩ := w.dr
  rcases z with z | z | z | ⟨q, z⟩ | ⟨ac, q, z, hq⟩
  · rw [<- z, h] at h1; cases h1
  · rw [<- z, h] at h2; cases h2
  · rw [<- z, h] at h3; cases h3
  · obtain ⟨ps, h4, _⟩ := w.tb.at_ _ z
    rw [h] at h4; cases h4
  · obtain ⟨C, dx, fs, h4⟩ := w.ob.there ac z hq
    rw [h] at h4; cases h4
theorem Wd.ne {wd : World} {K : PySem.W.Frag} {mg : Str -> Option Value} {dl : Dr wd K mg} {F H : Hp} {s : DS} (w : Wd dl F H s) {p b : Addr} (h : H p = none) (hb : dl.has b) : b ≠ p := fun z => w.na h (by rw [<- z]; exact hb)
theorem Wd.fnone {wd : World} {K : PySem.W.Frag} {mg : Str -> Option Value} {dl : Dr wd K mg} {F H : Hp} {s : DS} (w : Wd dl F H s) {p : Addr} (h : H p = none) : F p = none := by
  cases e : F p with
  | none => rfl
  | some o => rw [w.sub p o e] at h; cases h
theorem Wd.new {wd : World} {K : PySem.W.Frag} {mg : Str -> Option Value} {dl : Dr wd K mg} {F H : Hp} {s : DS} (w : Wd dl F H s) {p : Addr} {o : HO} (h : H p = none) (ho : NotTbl o := by intro _ z; cases z) : Wd dl (upd F p o) (upd H p o) s := by
  have na := w.na h
  refine ⟨fun b u e => ?_, fun b hb => ?_, ?_, w.tb.upd (fun b u e => by rw [upd_ne (ne_of_none (w.sub b u e) h)]; exact e) (fun q hq z => w.na h (.inr (.inr (.inr (.inl ⟨q.2, by rw [<- z]; exact hq⟩))))) ho (.inr upd_same), w.ob.new (fun b u e => by rw [upd_ne (ne_of_none (w.sub b u e) h)]; exact e) h⟩
  · by_cases z : b = p
    · subst z; rw [upd_same] at e ⊢; exact e
    · rw [upd_ne z] at e ⊢; exact w.sub b u e
  · rw [upd_ne (w.ne h hb)]; exact w.off b hb
  · obtain ⟨h1, h2, h3, g⟩ := w.dr
    refine ⟨?_, ?_, ?_, g⟩
    · rw [upd_ne (w.ne h (.inl rfl))]; exact h1
    · rw [upd_ne (w.ne h (.inr (.inl rfl)))]; exact h2
    · rw [upd_ne (w.ne h (.inr (.inr (.inl rfl))))]; exact h3
theorem Step.new {wd : World} {K : PySem.W.Frag} {mg : Str -> Option Value} {dl : Dr wd K mg} {F H : Hp} {s : DS} (w : Wd dl F H s) {p : Addr} {o : HO} (h : H p = none) : Step dl F H (upd F p o) (upd H p o) :=
  ⟨fun b u e => by rw [upd_ne (ne_of_none e (w.fnone h))]; exact e, fun b u _ e => by rw [upd_ne (ne_of_none e h)]; exact e, fun b u e => by
    by_cases z : b = p
    · subst z; exact .inr h
    · rw [upd_ne z] at e; exact .inl e, fun b e => by
    by_cases z : b = p
    · subst z; exact h
    · rw [upd_ne z] at e; exact e⟩
theorem Wd.newO {wd : World} {K : PySem.W.Frag} {mg : Str -> Option Value} {dl : Dr wd K mg} {F H : Hp} {s : DS} (w : Wd dl F H s) {p : Addr} {o : HO} (h : H p = none) (ho : NotTbl o := by intro _ z; cases z) (hc : NotCode o := by intro _ _ z; unfold LamX.CodeO at z; cases z) : Wd dl F (upd H p o) s := by
  have na := w.na h
  refine ⟨fun b u e => ?_, w.off, ?_, w.tb.upd (fun _ _ e => e) (fun q hq z => w.na h (.inr (.inr (.inr (.inl ⟨q.2, by rw [<- z]; exact hq⟩))))) ho (.inl hc), w.ob.new (fun _ _ e => e) h⟩
  · rw [upd_ne (ne_of_none (w.sub b u e) h)]; exact w.sub b u e
  · obtain ⟨h1, h2, h3, g⟩ := w.dr
    refine ⟨?_, ?_, ?_, g⟩
    · rw [upd_ne (w.ne h (.inl rfl))]; exact h1
    · rw [upd_ne (w.ne h (.inr (.inl rfl)))]; exact h2
    · rw [upd_ne (w.ne h (.inr (.inr (.inl rfl))))]; exact h3
theorem Step.newO {wd : World} {K : PySem.W.Frag} {mg : Str -> Option Value} {dl : Dr wd K mg} {F H : Hp} {p : Addr} {o : HO} (h : H p = none) : Step dl F H F (upd H p o) :=
  ⟨fun _ _ e => e, fun b u _ e => by rw [upd_ne (ne_of_none e h)]; exact e, fun b u e => .inl e, fun b e => by
    by_cases z : b = p
    · subst z; exact h
    · rw [upd_ne z] at e; exact e⟩
inductive OK where
  | k (ks : List L2.Key) | t (ks : List (List L2.Key)) | u (n : Nat)
def OK.len : OK -> Nat
  | .k ks => ks.length
  | .t ks => ks.length
  | .u n => n
def OK.nd : OK -> Prop
  | .k ks => ks.Nodup
  | .t ks => ks.Nodup
  | .u _ => False
def OK.ndT : OK -> Prop
  | .k ks => ks.Nodup
  | .t ks => ks.Nodup
  | .u _ => True
def OK.ho : OK -> List V -> HO
  | .k ks, vs => .dK (ks.zip vs)
  | .t ks, vs => .dT (ks.zip vs)
  | .u _, vs => .tup vs
def OK.data : OK -> List D -> D
  | .k ks, ds => .dct ks ds
  | .t ks, ds => .dcT ks ds
  | .u _, ds => .tup ds
inductive T where
  | fz (d : D)
  | lst (ts : List T)
  | dct (k : OK) (ts : List T)
mutual
def T.data : T -> D
  | .fz d => d
  | .lst ts => .lst (T.datas ts)
  | .dct k ts => k.data (T.datas ts)
def T.datas : List T -> List D
  | [] => []
  | t :: ts => t.data :: T.datas ts
end
inductive Sl where
  | fz (d : D)
  | own (ds : List D)
  | ini (c : Str) (ns : List Str) (ds : List D)
  | ownX (k : OK) (ds : List D)
  | tree (t : T)
  | ownP (i : Nat) (k : OK) (ds : List D)
abbrev Sls := List (Option Sl)
def Sl.isOwn : Sl -> Bool
  | .fz _ => false
  | .tree _ => false
  | _ => true
section
variable (K : PySem.W.Frag) (mg : Str -> Option Value) {wd : World} (dl : Dr wd K mg) (H0 F H : Hp)
def SlOk : Sl -> V -> Prop
  | .fz d, v => Rep K mg dl F d v
  | .own ds, v => ∃ (a : Addr) (vs : List V), v = .ref a /\ H a = some (.lst vs) /\ F a = none /\ H0 a = none /\ ¬ dl.has a /\ vs.length <= sizeLine /\ RepL K mg dl F ds vs
  | .ini c ns ds, v => ∃ (a dx C : Addr) (vs : List V), v = .ref a /\ mg c = some (.ref C) /\ H a = some (.ins C dx (ns.zip vs)) /\ H dx = some (.own a) /\ F a = none /\ F dx = none /\ H0 a = none /\ H0 dx = none /\ ¬ dl.has a /\ ¬ dl.has dx /\
      ns.length = vs.length /\ (ns.length <= 900 /\ a = dl.o /\ dx = dl.ox) /\ RepL K mg dl F ds vs
  | .ownX k ds, v => ∃ (a : Addr) (vs : List V), v = .ref a /\ H a = some (k.ho vs) /\ F a = none /\ H0 a = none /\ ¬ dl.has a /\ k.len = vs.length /\ (k.len <= 1000 /\ k.nd) /\ RepL K mg dl F ds vs
  | .tree _, _ => True
  | .ownP i k ds, v => ∃ (a : Addr) (vs : List V), v = .ref a /\ H a = some (k.ho vs) /\ F a = none /\ H0 a = none /\ ¬ dl.has a /\ k.len = vs.length /\ ((k.len <= 1000 /\ k.nd) /\ dl.ms[i]? = some (a, a, noC, [])) /\ RepL K mg dl F ds vs
end
section
variable (K : PySem.W.Frag) (mg : Str -> Option Value) {wd : World} (dl : Dr wd K mg) (F H : Hp)
mutual
def TR : T -> V -> List Addr -> Prop
  | .fz d, v, as => as = [] /\ Rep K mg dl F d v
  | .lst ts, v, as => ∃ (a : Addr) (vs : List V) (bs : List Addr), v = .ref a /\ as = a :: bs /\ H a = some (.lst vs) /\ vs.length <= sizeLine /\ TRL ts vs bs
  | .dct k ts, v, as => ∃ (a : Addr) (vs : List V) (bs : List Addr), v = .ref a /\ as = a :: bs /\ H a = some (k.ho vs) /\ k.len = vs.length /\ (k.len <= 1000 /\ k.ndT) /\ TRL ts vs bs
def TRL : List T -> List V -> List Addr -> Prop
  | [], vs, as => vs = [] /\ as = []
  | t :: ts, vs, as => ∃ (v : V) (vs' : List V) (a1 a2 : List Addr), vs = v :: vs' /\ as = a1 ++ a2 /\ TR t v a1 /\ TRL ts vs' a2
end
end
section
variable {K : PySem.W.Frag} {mg : Str -> Option Value} {wd : World} {dl : Dr wd K mg} {F H F' H' : Hp}
mutual
theorem TR.mono (e : Same F F') : ∀ (t : T) (v : V) (as : List Addr), (∀ a ∈ as, H' a = H a) -> TR K mg dl F H t v as -> TR K mg dl F' H' t v as
  | .fz d, v, as, _, h => ⟨h.1, Rep.mono e d v h.2⟩
  | .lst ts, v, as, q, h => by
    obtain ⟨a, vs, bs, h1, rfl, h3, h4, h5⟩ := h
    exact ⟨a, vs, bs, h1, rfl, by rw [q a (.head _)]; exact h3, h4, TRL.mono e ts vs bs (fun b hb => q b (.tail _ hb)) h5⟩
  | .dct k ts, v, as, q, h => by
    obtain ⟨a, vs, bs, h1, rfl, h3, h4, h5, h6⟩ := h
    exact ⟨a, vs, bs, h1, rfl, by rw [q a (.head _)]; exact h3, h4, h5, TRL.mono e ts vs bs (fun b hb => q b (.tail _ hb)) h6⟩
theorem TRL.mono (e : Same F F') : ∀ (ts : List T) (vs : List V) (as : List Addr), (∀ a ∈ as, H' a = H a) -> TRL K mg dl F H ts vs as -> TRL K mg dl F' H' ts vs as
  | [], _, _, _, h => h
  | t :: ts, vs, as, q, h => by
    obtain ⟨v, vs', a1, a2, h1, rfl, h3, h4⟩ := h
    exact ⟨v, vs', a1, a2, h1, rfl, TR.mono e t v a1 (fun b hb => q b (List.mem_append_left _ hb)) h3, TRL.mono e ts vs' a2 (fun b hb => q b (List.mem_append_right _ hb)) h4⟩
end
mutual
theorem TR.some : ∀ (t : T) (v : V) (as : List Addr), TR K mg dl F H t v as -> ∀ a ∈ as, ∃ o, H a = some o
  | .fz d, v, as, h => by
    obtain ⟨rfl, _⟩ := h
    exact fun a ha => nomatch ha
  | .lst ts, v, as, h => by
    obtain ⟨a, vs, bs, h1, rfl, h3, h4, h5⟩ := h
    intro b hb
    rcases List.mem_cons.mp hb with rfl | hb
    · exact ⟨_, h3⟩
    · exact TRL.some ts vs bs h5 b hb
  | .dct k ts, v, as, h => by
    obtain ⟨a, vs, bs, h1, rfl, h3, h4, h5, h6⟩ := h
    intro b hb
    rcases List.mem_cons.mp hb with rfl | hb
    · exact ⟨_, h3⟩
    · exact TRL.some ts vs bs h6 b hb
theorem TRL.some : ∀ (ts : List T) (vs : List V) (as : List Addr), TRL K mg dl F H ts vs as -> ∀ a ∈ as, ∃ o, H a = some o
  | [], _, _, h => by
    obtain ⟨_, rfl⟩ := h
    exact fun a ha => nomatch ha
  | t :: ts, vs, as, h => by
    obtain ⟨v, vs', a1, a2, h1, rfl, h3, h4⟩ := h
    intro b hb
    rcases List.mem_append.mp hb with hb | hb
    · exact TR.some t v a1 h3 b hb
    · exact TRL.some ts vs' a2 h4 b hb
end
theorem zip_snd_inj {α β : Type} : ∀ {ks : List α} {vs ws : List β}, ks.length = vs.length -> ks.length = ws.length -> ks.zip vs = ks.zip ws -> vs = ws
  | [], [], [], _, _, _ => rfl
  | [], _ :: _, _, h, _, _ => by cases h
  | [], [], _ :: _, _, h, _ => by cases h
  | _ :: _, [], _, h, _, _ => by cases h
  | _ :: _, _ :: _, [], _, h, _ => by cases h
  | k :: ks, v :: vs, w :: ws, h1, h2, e => by
    rw [List.zip_cons_cons, List.zip_cons_cons, List.cons.injEq, Prod.mk.injEq] at e
    rw [e.1.2, zip_snd_inj (Nat.succ.inj h1) (Nat.succ.inj h2) e.2]
theorem OK.ho_inj {k : OK} {vs ws : List V} (h1 : k.len = vs.length) (h2 : k.len = ws.length) (e : k.ho vs = k.ho ws) : vs = ws := by
  cases k with
  | k ks => exact zip_snd_inj h1 h2 (by injection e)
  | t ks => exact zip_snd_inj h1 h2 (by injection e)
  | u n => injection e
mutual
theorem TR.det : ∀ (t : T) (v : V) (as bs : List Addr), TR K mg dl F H t v as -> TR K mg dl F H t v bs -> as = bs
  | .fz d, v, as, bs, h, h' => by rw [h.1, h'.1]
  | .lst ts, v, as, bs, h, h' => by
    obtain ⟨a, vs, a1, rfl, rfl, h3, h4, h5⟩ := h
    obtain ⟨b, ws, b1, e, rfl, g3, g4, g5⟩ := h'
    cases e
    rw [h3] at g3
    cases g3
    rw [TRL.det ts vs a1 b1 h5 g5]
  | .dct k ts, v, as, bs, h, h' => by
    obtain ⟨a, vs, a1, rfl, rfl, h3, h4, h5, h6⟩ := h
    obtain ⟨b, ws, b1, e, rfl, g3, g4, g5, g6⟩ := h'
    cases e
    rw [h3] at g3
    have e := OK.ho_inj h4 g4 (Option.some.inj g3)
    subst e
    rw [TRL.det ts vs a1 b1 h6 g6]
theorem TRL.det : ∀ (ts : List T) (vs : List V) (as bs : List Addr), TRL K mg dl F H ts vs as -> TRL K mg dl F H ts vs bs -> as = bs
  | [], _, _, _, h, h' => by rw [h.2, h'.2]
  | t :: ts, vs, as, bs, h, h' => by
    obtain ⟨v, vs', a1, a2, rfl, rfl, h3, h4⟩ := h
    obtain ⟨w, ws', b1, b2, e, rfl, g3, g4⟩ := h'
    cases e
    rw [TR.det t v a1 b1 h3 g3, TRL.det ts vs' a2 b2 h4 g4]
end
end
structure TrOk (K : PySem.W.Frag) (mg : Str -> Option Value) {wd : World} (dl : Dr wd K mg) (H0 F H : Hp) (sg : L2.St) (G : Sls) (fp : Nat -> List Addr) : Prop where
  at_ : ∀ (i : Nat) (t : T), G[i]? = some (some (.tree t)) -> ∃ v, sg[i]? = some (some v) /\ TR K mg dl F H t v (fp i) /\ (fp i).Nodup /\ ∀ a ∈ fp i, F a = none /\ H0 a = none /\ ¬ dl.has a
  dj : ∀ (i j : Nat) (t u : T), G[i]? = some (some (.tree t)) -> G[j]? = some (some (.tree u)) -> i ≠ j -> ∀ a ∈ fp i, a ∉ fp j
  nx : ∀ (i j : Nat) (t : T) (s : Sl) (a : Addr), G[i]? = some (some (.tree t)) -> G[j]? = some (some s) -> s.isOwn = true -> sg[j]? = some (some (.ref a)) -> a ∉ fp i
def Trs (K : PySem.W.Frag) (mg : Str -> Option Value) {wd : World} (dl : Dr wd K mg) (H0 F H : Hp) (sg : L2.St) (G : Sls) : Prop := ∃ fp : Nat -> List Addr, TrOk K mg dl H0 F H sg G fp
section
variable {K : PySem.W.Frag} {mg : Str -> Option Value} {wd : World} {dl : Dr wd K mg} {H0 F H F' H' : Hp} {sg sg' : L2.St} {G G' : Sls}
theorem Trs.no (h : ∀ (i : Nat) (t : T), G[i]? ≠ some (some (.tree t))) : Trs K mg dl H0 F H sg G := ⟨fun _ => [], fun i t e => absurd e (h i t), fun i _ t _ e => absurd e (h i t), fun i _ t _ _ e => absurd e (h i t)⟩
theorem Trs.keep (S : Trs K mg dl H0 F H sg G) (h1 : ∀ (j : Nat) (t : T), G'[j]? = some (some (.tree t)) -> G[j]? = some (some (.tree t)) /\ sg'[j]? = sg[j]?) (hF : Same F F')
    (hh : ∀ fp, TrOk K mg dl H0 F H sg G fp -> ∀ (j : Nat) (t : T), G[j]? = some (some (.tree t)) -> ∀ a ∈ fp j, (∃ o, H a = some o) -> F a = none -> ¬ dl.has a -> H' a = H a /\ F' a = none)
    (h3 : ∀ fp, TrOk K mg dl H0 F H sg G fp -> ∀ (j : Nat) (s : Sl) (a : Addr), G'[j]? = some (some s) -> s.isOwn = true -> sg'[j]? = some (some (.ref a)) -> ∀ (i : Nat) (t : T), G[i]? = some (some (.tree t)) -> a ∉ fp i) : Trs K mg dl H0 F' H' sg' G' := by
  obtain ⟨fp, S⟩ := S
  refine ⟨fp, fun i t e => ?_, fun i j t u e1 e2 => S.dj i j t u (h1 i t e1).1 (h1 j u e2).1, fun i j t s a e1 e2 o es => h3 fp S j s a e2 o es i t (h1 i t e1).1⟩
  obtain ⟨e1, e2⟩ := h1 i t e
  obtain ⟨v, q1, q2, q3, q4⟩ := S.at_ i t e1
  have q5 := fun a ha => hh fp S i t e1 a ha (TR.some t v _ q2 a ha) (q4 a ha).1 (q4 a ha).2.2
  exact ⟨v, by rw [e2]; exact q1, TR.mono hF t v _ (fun a ha => (q5 a ha).1) q2, q3, fun a ha => ⟨(q5 a ha).2, (q4 a ha).2⟩⟩
theorem Trs.step (S : Trs K mg dl H0 F H sg G) (e : Step dl F H F' H') : Trs K mg dl H0 F' H' sg G :=
  S.keep (fun j t q => ⟨q, rfl⟩) e.fs (fun fp _ j t _ a _ ⟨o, ho⟩ hf nd => ⟨by rw [ho]; exact e.hs a o nd ho, by
    cases q : F' a with
    | none => rfl
    | some u =>
      rcases e.nw a u q with z | z
      · rw [hf] at z; cases z
      · rw [ho] at z; cases z⟩) fun fp T j s a ej o es i t ei => T.nx i j t s a ei ej o es
theorem Trs.at {s s' : Sl} {i : Nat} {a : Addr} (S : Trs K mg dl H0 F H sg G) (ei : G[i]? = some (some s)) (o1 : s.isOwn = true) (n : ∀ t, s' ≠ .tree t) (es : sg[i]? = some (some (.ref a))) (sF : Same F F') (hH : ∀ b, b ≠ a -> H' b = H b) (hF : ∀ b, b ≠ a -> F' b = F b) :
    Trs K mg dl H0 F' H' sg (G.set i (some s')) := by
  have old : ∀ (j : Nat) (u : Sl), (G.set i (some s'))[j]? = some (some u) -> (i = j /\ u = s') \/ G[j]? = some (some u) := fun j u e => by
    by_cases z : i = j
    · subst z
      rw [List.getElem?_set_self (List.getElem?_eq_some_iff.mp ei).1] at e
      cases e
      exact .inl ⟨rfl, rfl⟩
    · rw [List.getElem?_set_ne z] at e
      exact .inr e
  refine S.keep (fun j t e => ?_) sF (fun fp T j t ej b hb _ hf _ => ?_) fun fp T j u b ej o eb m t em => ?_
  · rcases old j _ e with ⟨_, z⟩ | z
    · exact absurd z.symm (n t)
    · exact ⟨z, rfl⟩
  · have ne : b ≠ a := fun z => T.nx j i t s a ej ei o1 es (by rw [<- z]; exact hb)
    exact ⟨hH b ne, by rw [hF b ne]; exact hf⟩
  · rcases old j _ ej with ⟨rfl, _⟩ | z
    · exact T.nx m i t s b em ei o1 eb
    · exact T.nx m j t u b em z o eb
theorem Trs.put {s' : Sl} {i : Nat} {v : V} (S : Trs K mg dl H0 F H sg G) (n : ∀ t, s' ≠ .tree t) (h : s'.isOwn = true -> ∀ a, v = .ref a -> ∀ fp, TrOk K mg dl H0 F H sg G fp -> ∀ (j : Nat) (t : T), G[j]? = some (some (.tree t)) -> a ∉ fp j) :
    Trs K mg dl H0 F H (sg.set i (some v)) (G.set i (some s')) := by
  have old : ∀ (j : Nat) (u : Sl), (G.set i (some s'))[j]? = some (some u) -> (i = j /\ u = s') \/ (i ≠ j /\ G[j]? = some (some u)) := fun j u e => by
    by_cases z : i = j
    · subst z
      by_cases q : i < G.length
      · rw [List.getElem?_set_self q] at e
        cases e
        exact .inl ⟨rfl, rfl⟩
      · rw [List.getElem?_set] at e
        simp [q] at e
    · rw [List.getElem?_set_ne z] at e
      exact .inr ⟨z, e⟩
  refine S.keep (fun j t e => ?_) (fun _ _ z => z) (fun fp T j t ej b hb _ hf _ => ⟨rfl, hf⟩) fun fp T j u b ej o eb m t em => ?_
  · rcases old j _ e with ⟨_, z⟩ | ⟨z, z2⟩
    · exact absurd z.symm (n t)
    · exact ⟨z2, by rw [List.getElem?_set_ne z]⟩
  · rcases old j _ ej with ⟨rfl, rfl⟩ | ⟨z, z2⟩
    · by_cases q : i < sg.length
      · rw [List.getElem?_set_self q] at eb
        cases eb
        exact h o b rfl fp T m t em
      · rw [List.getElem?_set] at eb
        simp [q] at eb
    · rw [List.getElem?_set_ne z] at eb
      exact T.nx m j t u b em z2 o eb
end
structure Sim (K : PySem.W.Frag) (mg : Str -> Option Value) {wd : World} (dl : Dr wd K mg) (F0 H0 F H : Hp) (sg : L2.St) (G : Sls) : Prop where
  len : G.length = sg.length
  sl : ∀ (i : Nat) (s : Sl), G[i]? = some (some s) -> ∃ v, sg[i]? = some (some v) /\ SlOk K mg dl H0 F H s v
  dis : ∀ (i j : Nat) (s t : Sl), G[i]? = some (some s) -> G[j]? = some (some t) -> s.isOwn = true -> t.isOwn = true -> sg[i]? = sg[j]? -> i = j
  st : Step dl F0 H0 F H
  tr : Trs K mg dl H0 F H sg G
section
variable {K : PySem.W.Frag} {mg : Str -> Option Value} {wd : World} {dl : Dr wd K mg} {F0 H0 F H F' H' : Hp} {sg : L2.St} {G : Sls}
theorem SlOk.step {s : Sl} {v : V} (e : Step dl F H F' H') (h : SlOk K mg dl H0 F H s v) : SlOk K mg dl H0 F' H' s v := by
  have fr : ∀ a, F a = none -> (∃ o, H a = some o) -> F' a = none := fun a h1 ⟨o, h2⟩ => by
    cases q : F' a with
    | none => rfl
    | some u =>
      rcases e.nw a u q with z | z
      · rw [h1] at z; cases z
      · rw [h2] at z; cases z
  cases s with
  | fz d => exact Rep.mono e.fs d v h
  | own ds =>
    obtain ⟨a, vs, h1, h2, h3, h4, h5, h6, h7⟩ := h
    exact ⟨a, vs, h1, e.hs a _ h5 h2, fr a h3 ⟨_, h2⟩, h4, h5, h6, RepL.mono e.fs ds vs h7⟩
  | ini c ns ds =>
    obtain ⟨a, dx, C, vs, h1, h2, h3, h4, h5, h6, h7, h8, h9, h10, h11, h12, h13⟩ := h
    exact ⟨a, dx, C, vs, h1, h2, e.hs a _ h9 h3, e.hs dx _ h10 h4, fr a h5 ⟨_, h3⟩, fr dx h6 ⟨_, h4⟩, h7, h8, h9, h10, h11, h12, RepL.mono e.fs ds vs h13⟩
  | ownX k ds =>
    obtain ⟨a, vs, h1, h2, h3, h4, h5, h6, h7, h8⟩ := h
    exact ⟨a, vs, h1, e.hs a _ h5 h2, fr a h3 ⟨_, h2⟩, h4, h5, h6, h7, RepL.mono e.fs ds vs h8⟩
  | ownP pp k ds =>
    obtain ⟨a, vs, h1, h2, h3, h4, h5, h6, h7, h8⟩ := h
    exact ⟨a, vs, h1, e.hs a _ h5 h2, fr a h3 ⟨_, h2⟩, h4, h5, h6, h7, RepL.mono e.fs ds vs h8⟩
  | tree t => trivial
theorem Sim.step (S : Sim K mg dl F0 H0 F H sg G) (e : Step dl F H F' H') : Sim K mg dl F0 H0 F' H' sg G :=
  ⟨S.len, fun i s h => by
    obtain ⟨v, h1, h2⟩ := S.sl i s h
    exact ⟨v, h1, h2.step e⟩, S.dis, S.st.trans e, S.tr.step e⟩
end
section
variable (mg : Str -> Option Value) (K : PySem.W.Frag) {wd : World} (dl : Dr wd K mg)
def ExRep (F H : Hp) (x : Exn) (cls : Value) (d : Option Addr) : Prop :=
  ∃ C : Addr, mg x.cls = some (.ref C) /\ cls = .ref C /\
    ((x.ns = [] /\ x.xs = [] /\ d = none) \/ (x.ns ≠ [] /\ ∃ (a : Addr) (vs : List V), d = some a /\ F a = some (.xd (x.ns.zip vs)) /\ x.ns.length = vs.length /\ RepL K mg dl F x.xs vs))
abbrev XK' := Value -> Option Addr -> Hp -> Prop
def Go {α : Type} (W : XK') (F H : Hp) (r : Option (Res α × DS)) (k : α -> DS -> Hp -> Hp -> Prop) : Prop := match r with
  | none => False
  | some (.ok a, s') => ∀ F' H', Step dl F H F' H' -> Wd dl F' H' s' -> k a s' F' H'
  | some (.err x, s') => ∀ F' H' cls d, Step dl F H F' H' -> Wd dl F' H' s' -> ExRep mg K dl F' H' x cls d -> W cls d H'
end
section
variable {mg : Str -> Option Value} {K : PySem.W.Frag} {wd : World} {dl : Dr wd K mg} {W : XK'} {F H : Hp}
theorem Go.bnd {α β : Type} {m : M α} {k : α -> M β} {s : DS} {q : β -> DS -> Hp -> Hp -> Prop} (h : Go mg K dl W F H (EK.bnd m k s) q) :
    Go mg K dl W F H (m s) fun a s1 F1 H1 => Go mg K dl W F1 H1 (k a s1) q := by
  unfold EK.bnd at h
  cases e : m s with
  | none => rw [e] at h; exact h
  | some p =>
    obtain ⟨r, s1⟩ := p
    rw [e] at h
    cases r with
    | err x => exact h
    | ok a =>
      intro F1 H1 st1 w1
      have h : Go mg K dl W F H (k a s1) q := h
      cases e2 : k a s1 with
      | none => rw [e2] at h; exact h
      | some p2 =>
        obtain ⟨r2, s2⟩ := p2
        rw [e2] at h
        cases r2 with
        | ok b => exact fun F2 H2 st2 w2 => h F2 H2 (st1.trans st2) w2
        | err x => exact fun F2 H2 cls d st2 w2 => h F2 H2 cls d (st1.trans st2) w2
theorem Go.imp {α : Type} {r : Option (Res α × DS)} {k k' : α -> DS -> Hp -> Hp -> Prop} (h : Go mg K dl W F H r k) (f : ∀ a s F' H', Step dl F H F' H' -> Wd dl F' H' s -> k a s F' H' -> k' a s F' H') : Go mg K dl W F H r k' := by
  cases r with
  | none => exact h
  | some p =>
    obtain ⟨r, s1⟩ := p
    cases r with
    | err x => exact h
    | ok a => exact fun F1 H1 st w => f a s1 F1 H1 st w (h F1 H1 st w)
theorem Go.ret {α : Type} {a : α} {s : DS} {q : α -> DS -> Hp -> Hp -> Prop} (w : Wd dl F H s) (h : Go mg K dl W F H (EK.ret a s) q) : q a s F H := h F H Step.refl w
theorem Go.ofO {α : Type} {o : Option α} {s : DS} {q : α -> DS -> Hp -> Hp -> Prop} (h : Go mg K dl W F H (EK.ofO o s) q) : ∃ a, o = some a /\ ∀ F' H', Step dl F H F' H' -> Wd dl F' H' s -> q a s F' H' := by
  cases o with
  | none => exact h.elim
  | some a => exact ⟨a, rfl, h⟩
theorem Go.noErr {α : Type} {m : M α} {s : DS} {q : α -> DS -> Hp -> Hp -> Prop} (h : Go mg K dl W F H (EK.noErr m s) q) : Go mg K dl (fun _ _ _ => False) F H (m s) q := by
  unfold EK.noErr at h
  cases e : m s with
  | none => rw [e] at h; exact h
  | some p =>
    obtain ⟨r, s1⟩ := p
    rw [e] at h
    cases r with
    | ok a => exact h
    | err x => exact h.elim
end
abbrev SE := Sls -> M D
abbrev ST := Sls -> M Bool
abbrev SA := Sls -> M (List D)
section
variable (X : Cx) (dl : Dr X.w X.K X.mg) (W : WX)
def tGF {α : Type} (F : Hp) (f : Sls -> M α) (q : α -> Hp -> Hp -> Prop) (sg : L2.St) (H : Hp) : Prop :=
  ∃ (F0 H0 : Hp) (G : Sls) (s : DS), Wd dl F H s /\ Sim X.K X.mg dl F0 H0 F H sg G /\ Go X.mg X.K dl (fun c d H' => W c d sg H') F H (f G s) fun a _ F' H' => q a F' H'
def tD (f : SE) : TE := fun sg H Q => ∃ F, tGF X dl W F f (fun d F' H' => ∀ v, Rep X.K X.mg dl F' d v -> Q v H') sg H
def tDT (f : ST) : TT := fun sg H Q => ∃ F, tGF X dl W F f (fun b _ H' => Q b H') sg H
def tDA (f : SA) : TA := fun sg H Q => ∃ F, tGF X dl W F f (fun ds F' H' => ∀ vs, RepL X.K X.mg dl F' ds vs -> Q vs H') sg H
abbrev DE (e : Expr) (f : SE) : Prop := PE X e (tD X dl W f)
abbrev DT (e : Expr) (f : ST) : Prop := PT X e (tDT X dl W f)
abbrev DW (e : Expr) (f : ST) : Prop := PW X e (tDT X dl W f)
abbrev DA (es : List Expr) (f : SA) : Prop := PA X es (tDA X dl W f)
end
section
variable {X : Cx} {dl : Dr X.w X.K X.mg} {W : WX} {F H : Hp} {sg : L2.St}
theorem tGF.bnd {α β : Type} {fa : Sls -> M α} {k : Sls -> α -> M β} {q : β -> Hp -> Hp -> Prop} (h : tGF X dl W F (fun G => EK.bnd (fa G) (k G)) q sg H) :
    tGF X dl W F fa (fun a F1 H1 => Step dl F H F1 H1 /\ tGF X dl W F1 (fun G => k G a) q sg H1) sg H := by
  obtain ⟨F0, H0, G, s, w, S, g⟩ := h
  exact ⟨F0, H0, G, s, w, S, g.bnd.imp fun a s1 F1 H1 st1 w1 g1 => ⟨st1, F0, H0, G, s1, w1, S.step st1, g1⟩⟩
theorem tGF.imp {α : Type} {f : Sls -> M α} {q q' : α -> Hp -> Hp -> Prop} (h : tGF X dl W F f q sg H) (i : ∀ a F' H', q a F' H' -> q' a F' H') : tGF X dl W F f q' sg H := by
  obtain ⟨F0, H0, G, s, w, S, g⟩ := h
  exact ⟨F0, H0, G, s, w, S, g.imp fun a s1 F1 H1 _ _ z => i a F1 H1 z⟩
theorem tGF.rt {α : Type} {a : α} {q : α -> Hp -> Hp -> Prop} (h : tGF X dl W F (fun _ => EK.ret a) q sg H) : q a F H := by
  obtain ⟨F0, H0, G, s, w, S, g⟩ := h
  exact g.ret w
theorem tGF.op {α : Type} {o : Option α} {q : α -> Hp -> Hp -> Prop} (h : tGF X dl W F (fun _ => EK.ofO o) q sg H) :
    ∃ (a : α) (s : DS), o = some a /\ Wd dl F H s /\ ∀ F' H', Step dl F H F' H' -> Wd dl F' H' s -> q a F' H' := by
  obtain ⟨F0, H0, G, s, w, S, g⟩ := h
  obtain ⟨a, e, g⟩ := g.ofO
  exact ⟨a, s, e, w, g⟩
end
theorem PE.of {X : Cx} {e : Expr} {t t' : TE} (h : PE X e t) (w : ∀ sg H Q, t' sg H Q -> t sg H Q) : PE X e t' := ⟨fun pins s sg H Q I q => h.run pins s sg H Q I (w _ _ _ q)⟩
theorem PT.of {X : Cx} {e : Expr} {t t' : TT} (h : PT X e t) (w : ∀ sg H Q, t' sg H Q -> t sg H Q) : PT X e t' := ⟨fun pins s sg H Q I q => h.run pins s sg H Q I (w _ _ _ q)⟩
theorem PW.of {X : Cx} {e : Expr} {t t' : TT} (h : PW X e t) (w : ∀ sg H Q, t' sg H Q -> t sg H Q) : PW X e t' := ⟨fun wh pins s sg H Q I q => h.run wh pins s sg H Q I (w _ _ _ q)⟩
theorem PA.of {X : Cx} {e : List Expr} {t t' : TA} (h : PA X e t) (w : ∀ sg H Q, t' sg H Q -> t sg H Q) : PA X e t' := ⟨fun pos pins s sg H Q I q => h.run pos pins s sg H Q I (w _ _ _ q)⟩
theorem PS.of {X : Cx} {e : Stmt} {t t' : TS} (h : PS X e t) (w : ∀ D sg H, t' D sg H -> t D sg H) : PS X e t' := ⟨fun pins s sg H D I q => h.run pins s sg H D I (w _ _ _ q)⟩
theorem PSs.of {X : Cx} {e : List Stmt} {t t' : TS} (h : PSs X e t) (w : ∀ D sg H, t' D sg H -> t D sg H) : PSs X e t' := ⟨fun pins s sg H D I q => h.run pins s sg H D I (w _ _ _ q)⟩
end
section
section
variable {X : Cx} {dl : Dr X.w X.K X.mg} {W : WX}
def gv (i : Nat) : SE := fun G => match G[i]? with
  | some (some (.fz d)) => ret d
  | _ => fail
theorem de_of_var {e : Expr} {i : Nat} (h : PE X e (tVar i)) : DE X dl W e (gv i) := by
  refine PE.of h fun sg H Q q => ?_
  obtain ⟨F, F0, H0, G, s, w, S, g⟩ := q
  cases e1 : G[i]? with
  | none => simp only [gv, e1] at g; exact g.elim
  | some o =>
    cases o with
    | none => simp only [gv, e1] at g; exact g.elim
    | some sl =>
      cases sl with
      | own _ => simp only [gv, e1] at g; exact g.elim
      | ini _ _ _ => simp only [gv, e1] at g; exact g.elim
      | ownX _ _ => simp only [gv, e1] at g; exact g.elim
      | ownP pp _ _ => simp only [gv, e1] at g; exact g.elim
      | tree _ => simp only [gv, e1] at g; exact g.elim
      | fz d =>
        simp only [gv, e1] at g
        obtain ⟨v, h1, h2⟩ := S.sl i _ e1
        exact ⟨v, h1, g.ret w v h2⟩
theorem de_var (i : Nat) {x : Str} {pos : Pos} (hN : X.N[i]? = some x := by rfl) (hv : Vis X.env.scope x := by first | exact Or.inl rfl | exact Or.inr (Or.inl rfl) | exact Or.inr (Or.inr rfl)) (hd : (x == ("__debug__" : Str)) = false := by decide)
    (hcd : (x == ("__classdict__" : Str)) = false := by decide) : DE X dl W (.Name x pos) (gv i) := de_of_var (pe_var hN hv hd hcd)
theorem de_known {e : Expr} {v : V} {d : D} (h : PE X e (tC v)) (r : ∀ F, Rep X.K X.mg dl F d v) : DE X dl W e (fun _ => ret d) := by
  refine PE.of h fun sg H Q q => ?_
  obtain ⟨F, q⟩ := q
  exact q.rt v (r F)
theorem de_int {i j pos} : DE X dl W (.Constant (.int i) j pos) (fun _ => ret (.int i)) := de_known pe_int fun _ => rfl
theorem de_bl {b j pos} : DE X dl W (.Constant (.bool b) j pos) (fun _ => ret (.bl b)) := de_known pe_bl fun _ => rfl
theorem de_non {j pos} : DE X dl W (.Constant .none j pos) (fun _ => ret .non) := de_known pe_non fun _ => rfl
theorem de_str {x j pos} : DE X dl W (.Constant (.str x) j pos) (fun _ => ret (.str x)) := de_known pe_str fun _ => rfl
theorem de_gint {x : Str} {i : Int} {t : Tok} {pos : Pos} (hg : Gl X x) (hm : X.mg x = some (.int i t)) (hd : (x == ("__debug__" : Str)) = false := by decide) : DE X dl W (.Name x pos) (fun _ => ret (.int i)) := de_known (pe_glob (v := .int i) hg hm ⟨_, rfl⟩ hd) fun _ => rfl
theorem de_gstr {x : Str} {y : Str} {t : Tok} {pos : Pos} (hg : Gl X x) (hm : X.mg x = some (.str y t)) (hd : (x == ("__debug__" : Str)) = false := by decide) : DE X dl W (.Name x pos) (fun _ => ret (.str y)) := de_known (pe_glob (v := .str y) hg hm ⟨_, rfl⟩ hd) fun _ => rfl
def sa0 : SA := fun _ => ret []
def saC (f : SE) (r : SA) : SA := fun G => bnd (f G) fun d => bnd (r G) fun ds => ret (d :: ds)
def itemsTL : D -> Option (List D)
  | .lst xs => some xs
  | .tup xs => some xs
  | _ => none
def saS (f : SE) (r : SA) : SA := fun G => bnd (f G) fun d => bnd (ofO (itemsTL d)) fun xs => bnd (r G) fun ds => ret (xs ++ ds)
theorem da_nil : DA X dl W [] sa0 := by
  refine PA.of pa_nil fun sg H Q q => ?_
  obtain ⟨F, q⟩ := q
  exact q.rt [] rfl
theorem da_cons {e : Expr} {es : List Expr} {f : SE} {r : SA} (he : DE X dl W e f) (hr : DA X dl W es r) (hs : starEach (e :: es) X.env = (false, eval e X.env) :: starEach es X.env := by rfl) : DA X dl W (e :: es) (saC f r) := by
  refine PA.of (pa_cons he hr hs) fun sg H Q q => ?_
  obtain ⟨F, q⟩ := q
  refine ⟨F, q.bnd.imp fun d F1 H1 ⟨st1, q1⟩ v rv => ⟨F1, q1.bnd.imp fun ds F2 H2 ⟨st2, q2⟩ vs rvs => ?_⟩⟩
  exact q2.rt (v :: vs) ⟨v, vs, rfl, Rep.mono st2.fs d v rv, rvs⟩
theorem seq_of {F H : Hp} {K : PySem.W.Frag} {mg : Str -> Option Value} {wd : World} {dl : Dr wd K mg} {d : D} {v : V} {xs : List D} (sub : Same F H) (r : Rep K mg dl F d v) (e : itemsTL d = some xs) :
    ∃ (a : Addr) (vs : List V), v = .ref a /\ (SqT K H a vs \/ SqL K H a vs) /\ vs.length <= sizeLine /\ RepL K mg dl F xs vs := by
  cases d with
  | lst ys =>
    obtain ⟨a, vs, h1, h2, h3, h4⟩ := r
    cases e
    exact ⟨a, vs, h1, .inr (SqL.of (sub _ _ h2)), h3, h4⟩
  | tup ys =>
    obtain ⟨a, vs, h1, h2, h3, h4⟩ := r
    cases e
    exact ⟨a, vs, h1, .inl (Same.seqT sub h2), h3, h4⟩
  | non => cases e
  | bl _ => cases e
  | int _ => cases e
  | str _ => cases e
  | obj _ _ _ => cases e
  | drw => cases e
  | scr _ => cases e
  | dct _ _ => cases e
  | dcT _ _ => cases e
  | dcN _ _ => cases e
  | exm _ _ => cases e
  | ptp _ => cases e
  | mob _ _ _ => cases e
  | exc _ _ _ => cases e
theorem da_star {e : Expr} {es : List Expr} {f : SE} {r : SA} {p : Pos} (he : DE X dl W e f) (hr : DA X dl W es r) (hs : starEach (.Starred e p :: es) X.env = (true, eval e X.env) :: starEach es X.env := by rfl) : DA X dl W (.Starred e p :: es) (saS f r) := by
  refine PA.of (StX.pa_star he hr hs) fun sg H Q q => ?_
  obtain ⟨F, q⟩ := q
  refine ⟨F, q.bnd.imp fun d F1 H1 ⟨st1, q1⟩ v rv => ?_⟩
  obtain ⟨xs, s, e1, w1, q1'⟩ := q1.bnd.op
  obtain ⟨a, vs, h1, h2, h3, h4⟩ := seq_of w1.sub rv e1
  refine ⟨a, vs, h1, h2, ?_⟩
  obtain ⟨_, q2⟩ := q1' F1 H1 Step.refl w1
  exact ⟨F1, q2.bnd.imp fun ds F2 H2 ⟨st2, q3⟩ ws rws => q3.rt (vs ++ ws) ((RepL.mono st2.fs xs vs h4).append rws)⟩
def gLst (r : SA) : SE := fun G => bnd (r G) fun ds => ofO (if ds.length <= sizeLine then some (.lst ds) else none)
def gTup (r : SA) : SE := fun G => bnd (r G) fun ds => ofO (if ds.length <= sizeLine then some (.tup ds) else none)
theorem de_lst {es : List Expr} {r : SA} {pos : Pos} (h : DA X dl W es r) : DE X dl W (.List es pos) (EK.gLst r) := by
  refine PE.of (pe_lst h) fun sg H Q q => ?_
  obtain ⟨F, q⟩ := q
  refine ⟨F, q.bnd.imp fun ds F1 H1 ⟨st1, q1⟩ vs rvs => ?_⟩
  obtain ⟨d, s, e, w, q2⟩ := q1.op
  split at e
  · rename_i hl
    cases e
    rw [rvs.length] at hl
    refine ⟨hl, fun p hp => q2 _ _ (Step.new w hp) (w.new hp) _ ⟨p, vs, rfl, upd_same, hl, RepL.mono (Step.new w hp).fs _ _ rvs⟩⟩
  · cases e
theorem de_tup {es : List Expr} {r : SA} {x1} {pos : Pos} (h : DA X dl W es r) : DE X dl W (.Tuple es x1 pos) (EK.gTup r) := by
  refine PE.of (pe_tup h) fun sg H Q q => ?_
  obtain ⟨F, q⟩ := q
  refine ⟨F, q.bnd.imp fun ds F1 H1 ⟨st1, q1⟩ vs rvs => ?_⟩
  obtain ⟨d, s, e, w, q2⟩ := q1.op
  split at e
  · rename_i hl
    cases e
    rw [rvs.length] at hl
    refine ⟨hl, fun p hp => q2 _ _ (Step.new w hp) (w.new hp) _ ⟨p, vs, rfl, SqT.of upd_same, hl, RepL.mono (Step.new w hp).fs _ _ rvs⟩⟩
  · cases e
section
variable (X dl)
def rD (g : D -> D -> Option D) : R2 := fun x y H Q => ∃ (F : Hp) (s : DS) (a b d : D), Wd dl F H s /\ Rep X.K X.mg dl F a x /\ Rep X.K X.mg dl F b y /\ g a b = some d /\ ∀ F' H' v, Step dl F H F' H' -> Wd dl F' H' s -> Rep X.K X.mg dl F' d v -> Q v H'
def rUD (g : D -> Option D) : V -> Hp -> VK -> Prop := fun x H Q => ∃ (F : Hp) (s : DS) (a d : D), Wd dl F H s /\ Rep X.K X.mg dl F a x /\ g a = some d /\ ∀ F' H' v, Step dl F H F' H' -> Wd dl F' H' s -> Rep X.K X.mg dl F' d v -> Q v H'
def rCD (g : List D -> Option D) : List V -> Hp -> VK -> Prop := fun xs H Q => ∃ (F : Hp) (s : DS) (ds : List D) (d : D), Wd dl F H s /\ RepL X.K X.mg dl F ds xs /\ g ds = some d /\ ∀ F' H' v, Step dl F H F' H' -> Wd dl F' H' s -> Rep X.K X.mg dl F' d v -> Q v H'
end
def g2 (g : D -> D -> Option D) (fa fb : SE) : SE := fun G => bnd (fa G) fun a => bnd (fb G) fun b => ofO (g a b)
def g1 (g : D -> Option D) (fa : SE) : SE := fun G => bnd (fa G) fun a => ofO (g a)
def gC (g : List D -> Option D) (fa : SA) : SE := fun G => bnd (fa G) fun ds => ofO (g ds)
variable {a b c : Expr} {fa fb fc : SE} {pos : Pos} {g g' : D -> D -> Option D}
theorem tOp_of {sg : L2.St} {H : Hp} {Q : VK} (q : tD X dl W (g2 g fa fb) sg H Q) : tOp (rD X dl g) (tD X dl W fa) (tD X dl W fb) sg H Q := by
  obtain ⟨F, q⟩ := q
  refine ⟨F, q.bnd.imp fun x F1 H1 ⟨st1, q1⟩ v rv => ⟨F1, q1.bnd.imp fun y F2 H2 ⟨st2, q2⟩ u ru => ?_⟩⟩
  obtain ⟨d, s, e, w, q3⟩ := q2.op
  exact ⟨F2, s, x, y, d, w, Rep.mono st2.fs _ _ rv, ru, e, fun F' H' v st w r => q3 F' H' st w v r⟩
theorem de_bin {op : Operator} (ho : OpR X (binaryOp op) (rD X dl g)) (ha : DE X dl W a fa) (hb : DE X dl W b fb) : DE X dl W (.BinOp a op b pos) (g2 g fa fb) := PE.of (pe_op ho ha hb) fun _ _ _ q => tOp_of q
theorem de_cmp {op : CmpOp} (ho : OpR X (compareOp op) (rD X dl g)) (ha : DE X dl W a fa) (hb : DE X dl W b fb) (hm : behindInMarks op b = false) : DE X dl W (.Compare a [op] [b] pos) (g2 g fa fb) := PE.of (pe_cmpR ho ha hb hm) fun _ _ _ q => tOp_of q
theorem de_un {op : UnaryOp} {g : D -> Option D} (ho : UnR X (unaryOp op) (rUD X dl g)) (ha : DE X dl W a fa) : DE X dl W (.UnaryOp op a pos) (g1 g fa) := by
  refine PE.of (pe_un ho ha) fun sg H Q q => ?_
  obtain ⟨F, q⟩ := q
  refine ⟨F, q.bnd.imp fun x F1 H1 ⟨st1, q1⟩ v rv => ?_⟩
  obtain ⟨d, s, e, w, q3⟩ := q1.op
  exact ⟨F1, s, x, d, w, rv, e, fun F' H' v st w r => q3 F' H' st w v r⟩
def asB : D -> Option Bool
  | .bl b => some b
  | _ => none
def tB' (f : SE) : ST := fun G => bnd (f G) fun d => ofO (asB d)
theorem asB_some {d : D} {b : Bool} (e : asB d = some b) : d = .bl b := by
  cases d <;> simp [asB] at e
  subst e; rfl
theorem tTest_of {f : SE} {sg : L2.St} {H : Hp} {Q : Bool -> Hp -> Prop} (q : tDT X dl W (tB' f) sg H Q) : tD X dl W f sg H fun x H' => ∃ k, x = .bl k /\ Q k H' := by
  obtain ⟨F, q⟩ := q
  refine ⟨F, q.bnd.imp fun d F1 H1 ⟨st1, q1⟩ v rv => ?_⟩
  obtain ⟨k, s, e, w, q3⟩ := q1.op
  cases asB_some e
  exact ⟨k, rv, q3 F1 H1 Step.refl w⟩
theorem dt_val {e : Expr} {f : SE} (h : DE X dl W e f) (he : ∀ whole, isTrue e X.env whole = (do let v <- whole; standAt e.pos; holding [v] (truthy v)) := by intro _; rfl) : DT X dl W e (tB' f) := PT.of (pt_val h he) fun _ _ _ q => tTest_of q
theorem dt_cmp {op : CmpOp} (ho : OpR X (compareOp op) (rD X dl g)) (ha : DE X dl W a fa) (hb : DE X dl W b fb) (hm : behindInMarks op b = false) : DT X dl W (.Compare a [op] [b] pos) (tB' (g2 g fa fb)) := by
  refine PT.of (pt_cmpR ho ha hb hm) fun sg H Q q => ?_
  have q' := tTest_of q
  exact tOp_of q'
def g3 (g g' : D -> D -> Option D) (fa fb fc : SE) : SE := fun G => bnd (fa G) fun x => bnd (fb G) fun y => bnd (ofO (g x y)) fun r => bnd (ofO (asB r)) fun k => if k then bnd (fc G) fun z => ofO (g' y z) else ret (.bl false)
theorem tChain_of {sg : L2.St} {H : Hp} {Q : VK} (q : tD X dl W (g3 g g' fa fb fc) sg H Q) : tChain (rD X dl g) (rD X dl g') (tD X dl W fa) (tD X dl W fb) (tD X dl W fc) sg H Q := by
  obtain ⟨F, q⟩ := q
  refine ⟨F, q.bnd.imp fun x F1 H1 ⟨st1, q1⟩ v rv => ⟨F1, q1.bnd.imp fun y F2 H2 ⟨st2, q2⟩ u ru => ?_⟩⟩
  obtain ⟨r, s, e, w, q3⟩ := q2.bnd.op
  refine ⟨F2, s, x, y, r, w, Rep.mono st2.fs _ _ rv, ru, e, fun F3 H3 z st3 w3 rz => ?_⟩
  obtain ⟨st23, q4⟩ := q3 F3 H3 st3 w3
  obtain ⟨k, s4, e4, w4, q5⟩ := q4.bnd.op
  cases asB_some e4
  refine ⟨k, rz, ?_⟩
  obtain ⟨_, q6⟩ := q5 F3 H3 Step.refl w4
  cases k with
  | false =>
    rw [if_neg Bool.false_ne_true]
    exact q6.rt _ rfl
  | true =>
    rw [if_pos rfl]
    refine ⟨F3, q6.bnd.imp fun z' F5 H5 ⟨st5, q7⟩ u' ru' => ?_⟩
    obtain ⟨d, s7, e7, w7, q8⟩ := q7.op
    exact ⟨F5, s7, y, z', d, w7, Rep.mono (st23.trans st5).fs _ _ ru, ru', e7, fun F' H' v st w r => q8 F' H' st w v r⟩
theorem de_chain {op op' : CmpOp} (ho : OpR X (compareOp op) (rD X dl g)) (ho' : OpR X (compareOp op') (rD X dl g')) (ha : DE X dl W a fa) (hb : DE X dl W b fb) (hc : DE X dl W c fc)
    (hm : lastMarks [op, op'] [b, c] = false := by with_unfolding_all rfl) : DE X dl W (.Compare a [op, op'] [b, c] pos) (g3 g g' fa fb fc) := PE.of (pe_chain ho ho' ha hb hc hm) fun _ _ _ q => tChain_of q
theorem dt_chain {op op' : CmpOp} (ho : OpR X (compareOp op) (rD X dl g)) (ho' : OpR X (compareOp op') (rD X dl g')) (ha : DE X dl W a fa) (hb : DE X dl W b fb) (hc : DE X dl W c fc)
    (hm : lastMarks [op, op'] [b, c] = false := by with_unfolding_all rfl) : DT X dl W (.Compare a [op, op'] [b, c] pos) (tB' (g3 g g' fa fb fc)) := PT.of (pt_chain ho ho' ha hb hc hm) fun _ _ _ q => tChain_of (tTest_of q)
variable {ua ub : ST} {rest : List Expr}
def bAnd (u v : ST) : ST := fun G => bnd (u G) fun c => if c then v G else ret false
def bOr (u v : ST) : ST := fun G => bnd (u G) fun c => if c then ret true else v G
def bNot (u : ST) : ST := fun G => bnd (u G) fun c => ret (!c)
theorem dw_or1 (ha : DT X dl W a ua) : DW X dl W (.BoolOp .Or [a] pos) ua := pw_or1 ha
theorem dw_or (ha : DT X dl W a ua) (hb : DW X dl W (.BoolOp .Or (b :: rest) pos) ub) : DW X dl W (.BoolOp .Or (a :: b :: rest) pos) (bOr ua ub) := by
  refine PW.of (pw_or ha hb) fun sg H Q q => ?_
  obtain ⟨F, q⟩ := q
  refine ⟨F, q.bnd.imp fun k F1 H1 ⟨st1, q1⟩ => ?_⟩
  cases k with
  | true => exact q1.rt
  | false => exact ⟨F1, q1⟩
theorem dt_w {e : Expr} {u : ST} (h : DW X dl W e u) : DT X dl W e u := h.pt
theorem dt_not (ha : DT X dl W a ua) : DT X dl W (.UnaryOp .Not a pos) (bNot ua) := by
  refine PT.of (pt_not ha) fun sg H Q q => ?_
  obtain ⟨F, q⟩ := q
  exact ⟨F, q.bnd.imp fun k F1 H1 ⟨st1, q1⟩ => q1.rt⟩
def vAnd (f h : SE) : SE := fun G => bnd (f G) fun d => bnd (ofO (asB d)) fun k => if k then h G else ret (.bl false)
def vOr (f h : SE) : SE := fun G => bnd (f G) fun d => bnd (ofO (asB d)) fun k => if k then ret (.bl true) else h G
def vNot (f : SE) : SE := fun G => bnd (f G) fun d => bnd (ofO (asB d)) fun k => ret (.bl (!k))
theorem de_one {op} (h : DE X dl W a fa) : DE X dl W (.BoolOp op [a] pos) fa := pe_one h
theorem de_and (ha : DE X dl W a fa) (hb : DE X dl W (.BoolOp .And (b :: rest) pos) fb) : DE X dl W (.BoolOp .And (a :: b :: rest) pos) (vAnd fa fb) := by
  refine PE.of (pe_and ha hb) fun sg H Q q => ?_
  obtain ⟨F, q⟩ := q
  refine ⟨F, q.bnd.imp fun d F1 H1 ⟨st1, q1⟩ v rv => ?_⟩
  obtain ⟨k, s, e, w, q2⟩ := q1.bnd.op
  cases asB_some e
  refine ⟨k, rv, ?_⟩
  obtain ⟨_, q3⟩ := q2 F1 H1 Step.refl w
  cases k with
  | true => rw [if_pos rfl]; exact ⟨F1, q3⟩
  | false => rw [if_neg Bool.false_ne_true]; exact q3.rt _ rfl
theorem de_not (ha : DE X dl W a fa) : DE X dl W (.UnaryOp .Not a pos) (vNot fa) := by
  refine PE.of (pe_not ha) fun sg H Q q => ?_
  obtain ⟨F, q⟩ := q
  refine ⟨F, q.bnd.imp fun d F1 H1 ⟨st1, q1⟩ v rv => ?_⟩
  obtain ⟨k, s, e, w, q2⟩ := q1.bnd.op
  cases asB_some e
  obtain ⟨_, q3⟩ := q2 F1 H1 Step.refl w
  exact ⟨k, rv, q3.rt _ rfl⟩
def vIf (u : ST) (f h : SE) : SE := fun G => bnd (u G) fun k => if k then f G else h G
theorem de_ifExp (hc : DT X dl W c ua) (ha : DE X dl W a fa) (hb : DE X dl W b fb) : DE X dl W (.IfExp c a b pos) (vIf ua fa fb) := by
  refine PE.of (pe_ifExp hc ha hb) fun sg H Q q => ?_
  obtain ⟨F, q⟩ := q
  refine ⟨F, q.bnd.imp fun k F1 H1 ⟨st1, q1⟩ => ?_⟩
  cases k with
  | true => rw [if_pos rfl]; exact ⟨F1, q1⟩
  | false => rw [if_neg Bool.false_ne_true]; exact ⟨F1, q1⟩
variable {x : Str} {p : Pos} {id T : String} {gc : List D -> Option D} {es : List Expr} {ra : SA} {e : Expr}
theorem tCB_of {sg : L2.St} {H : Hp} {Q : VK} (q : tD X dl W (gC gc ra) sg H Q) : tCB (rCD X dl gc) (tDA X dl W ra) sg H Q := by
  obtain ⟨F, q⟩ := q
  refine ⟨F, q.bnd.imp fun ds F1 H1 ⟨st1, q1⟩ vs rvs => ?_⟩
  obtain ⟨d, s, e, w, q3⟩ := q1.op
  exact ⟨F1, s, ds, d, w, rvs, e, fun F' H' v st w r => q3 F' H' st w v r⟩
theorem de_callB (hc : CallR X (.builtin id) (rCD X dl gc)) (hg : Gl X x) (hm : X.mg x = none) (hv : bootBuiltins x = some (.builtin id)) (ha : DA X dl W (e :: es) ra) (hn : x ≠ "__name__" := by decide) (hdb : (x == ("__debug__" : Str)) = false := by decide)
    (he : starEach (e :: es) X.env = (false, eval e X.env) :: starEach es X.env := by rfl) (hpl : (backTo pos (starEach es X.env)).any (·.1) = false := by rfl) : DE X dl W (.Call (.Name x p) (e :: es) [] pos) (gC gc ra) :=
  PE.of (pe_callB hc hg hm hv ha hn hdb he hpl) fun _ _ _ q => tCB_of q
theorem de_callTy (hc : CallR X (.type T) (rCD X dl gc)) (hg : Gl X x) (hm : X.mg x = none) (hv : bootBuiltins x = some (.type T)) (ha : DA X dl W (e :: es) ra) (hn : x ≠ "__name__" := by decide) (hdb : (x == ("__debug__" : Str)) = false := by decide)
    (he : starEach (e :: es) X.env = (false, eval e X.env) :: starEach es X.env := by rfl) (hpl : (backTo pos (starEach es X.env)).any (·.1) = false := by rfl) : DE X dl W (.Call (.Name x p) (e :: es) [] pos) (gC gc ra) :=
  PE.of (pe_callTy hc hg hm hv ha hn hdb he hpl) fun _ _ _ q => tCB_of q
theorem de_ix (hr : IxR X (rD X dl g)) (ha : DE X dl W a fa) (hb : DE X dl W b fb) (hs : PlainIx b) : DE X dl W (.Subscript a b pos) (g2 g fa fb) := PE.of (pe_ix hr ha hb hs) fun _ _ _ q => tOp_of q
end
end
section
section
variable {mg : Str -> Option Value} {K : PySem.W.Frag} {wd : World} {dl : Dr wd K mg} {W : XK'} {F H F1 H1 : Hp}
theorem Go.at {α β : Type} {m : M α} {k : α -> M β} {s : DS} {q : β -> DS -> Hp -> Hp -> Prop} (st : Step dl F H F1 H1) (h : Go mg K dl W F H (EK.bnd m k s) q) :
    Go mg K dl W F1 H1 (m s) fun a s' _ _ => Go mg K dl W F H (k a s') q := by
  unfold EK.bnd at h
  cases e : m s with
  | none => rw [e] at h; exact h
  | some p =>
    obtain ⟨r, s1⟩ := p
    rw [e] at h
    cases r with
    | err x => exact fun F' H' cls d st' w' => h F' H' cls d (st.trans st') w'
    | ok a => exact fun F' H' st' w' => h
end
section
variable (X : Cx) (dl : Dr X.w X.K X.mg) (W : WX)
def NewL (H : Hp) (ds : List D) (F' H' : Hp) (a : Addr) : Prop := H a = none /\ F' a = none /\ ∃ vs, H' a = some (.lst vs) /\ vs.length <= sizeLine /\ RepL X.K X.mg dl F' ds vs
def tDO (f : SA) : TE := fun sg H Q => ∃ F, tGF X dl W F f (fun ds F' H' => ∀ a, NewL X dl H ds F' H' a -> Q (.ref a) H') sg H
abbrev DEO (e : Expr) (f : SA) : Prop := PE X e (tDO X dl W f)
end
section
variable {X : Cx} {dl : Dr X.w X.K X.mg} {W : WX}
theorem Same.updN {F : Hp} {a : Addr} {o : HO} (n : F a = none) : Same F (upd F a o) := fun b u e => by rw [upd_ne (ne_of_none e n)]; exact e
theorem Wd.freeze {F H : Hp} {s : DS} {a : Addr} {o : HO} (w : Wd dl F H s) (h : H a = some o) (n : F a = none) (nd : ¬ dl.has a) : Wd dl (upd F a o) H s := by
  refine ⟨fun b u e => ?_, fun b hb => ?_, w.dr, w.tb.mono (Same.updN n) (fun _ _ _ e => e) fun _ _ e => .inl e, w.ob.mono (Same.updN n) fun _ _ _ _ _ => rfl⟩
  · by_cases z : b = a
    · subst z; rw [upd_same] at e; rw [h]; exact e
    · rw [upd_ne z] at e; exact w.sub b u e
  · rw [upd_ne (fun z => nd (by rw [<- z]; exact hb))]; exact w.off b hb
def gLO (f : SA) : SE := fun G => bnd (f G) fun ds => ret (.lst ds)
theorem ownR {f : SA} {sg : L2.St} {H : Hp} {Q : VK} (q : tD X dl W (gLO f) sg H Q) : tDO X dl W f sg H Q := by
  obtain ⟨F, q⟩ := q
  obtain ⟨F0, H0, G, s, w, S, g⟩ := q
  refine ⟨F, F0, H0, G, s, w, S, ?_⟩
  refine Go.imp (Go.at Step.refl g) fun ds s1 F1 H1 st1 w1 g1 a na => ?_
  obtain ⟨n1, n2, vs, h1, h2, h3⟩ := na
  have nd : ¬ dl.has a := w.na n1
  exact g1 (upd F1 a (.lst vs)) H1 ⟨fun b u e => Same.updN n2 b u (st1.fs b u e), st1.hs, fun b u e => by
      by_cases z : b = a
      · subst z; exact .inr n1
      · rw [upd_ne z] at e; exact st1.nw b u e, st1.al⟩ (w1.freeze h1 n2 nd) _ ⟨a, vs, rfl, upd_same, h2, RepL.mono (Same.updN n2) _ _ h3⟩
theorem de_own {e : Expr} {f : SA} (h : DEO X dl W e f) : DE X dl W e (gLO f) := PE.of h fun _ _ _ q => ownR q
theorem deo_lst {es : List Expr} {r : SA} {pos : Pos} (h : DA X dl W es r) : DEO X dl W (.List es pos) (fun G => bnd (r G) fun ds => ofO (if ds.length <= sizeLine then some ds else none)) := by
  refine PE.of (pe_lst h) fun sg H Q q => ?_
  obtain ⟨F, q⟩ := q
  refine ⟨F, q.bnd.imp fun ds F1 H1 ⟨st1, q1⟩ vs rvs => ?_⟩
  obtain ⟨d, s, e, w, q2⟩ := q1.op
  split at e
  · rename_i hl
    cases e
    rw [rvs.length] at hl
    exact ⟨hl, fun p hp => q2 _ _ (Step.newO hp) (w.newO hp) p ⟨st1.al p hp, w.fnone hp, vs, upd_same, hl, rvs⟩⟩
  · cases e
end
section
variable (X : Cx) (dl : Dr X.w X.K X.mg)
abbrev SG := Sls -> D -> Option Sls
def gD (is : List Nat) (f : SG) : TG := fun v sg H Q => ∃ (F0 H0 F : Hp) (G : Sls) (s : DS) (d : D) (G' : Sls), Wd dl F H s /\ Sim X.K X.mg dl F0 H0 F H sg G /\ Rep X.K X.mg dl F d v /\ f G d = some G' /\
  ∀ sg', (∀ vs : List Nat, (∀ i ∈ is, i ∈ vs) -> wipe sg' vs = wipe sg vs) -> Sim X.K X.mg dl F0 H0 F H sg' G' -> Q sg' H
abbrev DG (tg : Expr) (is : List Nat) (f : SG) : Prop := PG X tg (gD X dl is f)
end
theorem PG.of {X : Cx} {e : Expr} {t t' : TG} (h : PG X e t) (w : ∀ v sg H Q, t' v sg H Q -> t v sg H Q) : PG X e t' := ⟨fun pins s sg H v u Q I r q => h.run pins s sg H v u Q I r (w _ _ _ _ q)⟩
theorem PI.of {X : Cx} {tg e : Expr} {t t' : TI} (h : PI X tg e t) (w : ∀ sg H Q, t' sg H Q -> t sg H Q) : PI X tg e t' := ⟨fun pins s sg H R I q => h.run pins s sg H R I (w _ _ _ q)⟩
section
variable {K : PySem.W.Frag} {mg : Str -> Option Value} {wd : World} {dl : Dr wd K mg} {F0 H0 F H : Hp} {sg : L2.St} {G : Sls}
theorem Sim.put {i : Nat} {d : D} {v : V} (S : Sim K mg dl F0 H0 F H sg G) (r : Rep K mg dl F d v) : Sim K mg dl F0 H0 F H (sg.set i (some v)) (G.set i (some (.fz d))) := by
  refine ⟨by rw [List.length_set, List.length_set]; exact S.len, fun j s e => ?_, fun j k s t e1 e2 o1 o2 e3 => ?_, S.st, S.tr.put (fun _ z => nomatch z) (fun z => nomatch z)⟩
  · by_cases z : i = j
    · subst z
      have hl : i < G.length := by
        rw [List.getElem?_set] at e
        simp only [if_pos rfl] at e
        by_cases q : i < G.length
        · exact q
        · rw [if_neg q] at e; cases e
      rw [List.getElem?_set_self hl] at e
      cases e
      exact ⟨v, List.getElem?_set_self (by rw [<- S.len]; exact hl), r⟩
    · rw [List.getElem?_set_ne z] at e
      rw [List.getElem?_set_ne z]
      exact S.sl j s e
  · have nz : ∀ m (u : Sl), (G.set i (some (.fz d)))[m]? = some (some u) -> u.isOwn = true -> i ≠ m := fun m u e o z => by
      subst z
      by_cases q : i < G.length
      · rw [List.getElem?_set_self q] at e; cases e; cases o
      · rw [List.getElem?_set] at e
        simp [q] at e
    have z1 := nz j s e1 o1
    have z2 := nz k t e2 o2
    rw [List.getElem?_set_ne z1] at e1 e3
    rw [List.getElem?_set_ne z2] at e2 e3
    exact S.dis j k s t e1 e2 o1 o2 e3
theorem wipe_set : ∀ (vs : List Nat) (sg : L2.St) (i : Nat) (x : Option V), i ∈ vs -> wipe (sg.set i x) vs = wipe sg vs
  | [], _, _, _, h => by simp at h
  | v :: vs, sg, i, x, h => by
    unfold wipe
    by_cases q : i ∈ vs
    · rw [wipe_set vs sg i x q]
    · have e : i = v := by
        rcases List.mem_cons.mp h with z | z
        · exact z
        · exact absurd z q
      subst e
      apply List.ext_getElem?
      intro j
      by_cases hj : i = j
      · subst hj
        simp only [List.getElem?_set, wipe_length, List.length_set, if_true]
      · rw [List.getElem?_set_ne hj, List.getElem?_set_ne hj]
        have gen : ∀ us : List Nat, (wipe (sg.set i x) us)[j]? = (wipe sg us)[j]? := by
          intro us
          induction us with
          | nil => exact List.getElem?_set_ne hj
          | cons u us ih =>
            unfold wipe
            by_cases hu : u = j
            · subst hu
              simp only [List.getElem?_set, wipe_length, List.length_set, if_true]
            · rw [List.getElem?_set_ne hu, List.getElem?_set_ne hu]
              exact ih
        exact gen vs
end
section
variable {X : Cx} {dl : Dr X.w X.K X.mg} {W : WX} {pos : Pos}
def sgN (i : Nat) : SG := fun G d => some (G.set i (some (.fz d)))
theorem dg_name (i : Nat) {x : Str} (hN : X.N.Nodup) (hi : X.N[i]? = some x := by rfl) (hx : Loc X.env.scope x := by first | exact Or.inl rfl | exact Or.inr rfl) (hf : X.fn x = true \/ X.env.scope.names.lookup x = some .local := by first | exact .inl rfl | exact .inr rfl | assumption) : DG X dl (.Name x pos) [i] (sgN i) := by
  refine PG.of (pg_name hN hi hx hf) fun v sg H Q q => ?_
  obtain ⟨F0, H0, F, G, s, d, G', w, S, r, e, k⟩ := q
  cases e
  exact k _ (fun vs h => wipe_set vs sg i _ (h i List.mem_cons_self)) (S.put r)
def sgNil : Sls -> List D -> Option Sls := fun G ds => match ds with | [] => some G | _ => none
def sgCons (f : SG) (r : Sls -> List D -> Option Sls) : Sls -> List D -> Option Sls := fun G ds => match ds with
  | [] => none
  | d :: ds => (f G d).bind fun G' => r G' ds
def itemsT : D -> Option (List D)
  | .tup xs => some xs
  | _ => none
def sgT (r : Sls -> List D -> Option Sls) : SG := fun G d => (itemsT d).bind fun ds => r G ds
section
variable (X dl)
def gDs (is : List Nat) (f : Sls -> List D -> Option Sls) : TGs := fun vs sg H Q => ∃ (F0 H0 F : Hp) (G : Sls) (s : DS) (ds : List D) (G' : Sls), Wd dl F H s /\ Sim X.K X.mg dl F0 H0 F H sg G /\ RepL X.K X.mg dl F ds vs /\ f G ds = some G' /\
  ∀ sg', (∀ vs : List Nat, (∀ i ∈ is, i ∈ vs) -> wipe sg' vs = wipe sg vs) -> Sim X.K X.mg dl F0 H0 F H sg' G' -> Q sg' H
end
theorem PGs.of {es : List Expr} {t t' : TGs} (h : PGs X es t) (w : ∀ v sg H Q, t' v sg H Q -> t v sg H Q) : PGs X es t' := ⟨fun pins s sg H v u Q I r q => h.run pins s sg H v u Q I r (w _ _ _ _ q)⟩
theorem dgs_nil : PGs X [] (gDs X dl [] sgNil) := by
  refine PGs.of pgs_nil fun vs sg H Q q => ?_
  obtain ⟨F0, H0, F, G, s, ds, G', w, S, r, e, k⟩ := q
  cases ds with
  | cons _ _ => cases e
  | nil => cases e; exact ⟨r, k sg (fun _ _ => rfl) S⟩
theorem dgs_cons {e : Expr} {es : List Expr} {is js : List Nat} {f : SG} {r : Sls -> List D -> Option Sls} (h1 : DG X dl e is f) (h2 : PGs X es (gDs X dl js r))
    (hs : (assignEach (e :: es) X.env).map (·.2) = assign e X.env :: (assignEach es X.env).map (·.2) := by rfl) : PGs X (e :: es) (gDs X dl (is ++ js) (sgCons f r)) := by
  refine PGs.of (pgs_cons h1 h2 hs) fun vs sg H Q q => ?_
  obtain ⟨F0, H0, F, G, s, ds, G', w, S, rp, e, k⟩ := q
  cases ds with
  | nil => cases e
  | cons d ds =>
    obtain ⟨v, vs', e1, rd, rds⟩ := rp
    subst e1
    unfold sgCons at e
    cases e2 : f G d with
    | none => simp [e2] at e
    | some G1 =>
      simp only [e2, Option.bind_some] at e
      refine ⟨v, vs', rfl, F0, H0, F, G, s, d, G1, w, S, rd, e2, fun sg1 hw1 S1 => ?_⟩
      refine ⟨F0, H0, F, G1, s, ds, G', w, S1, rds, e, fun sg2 hw2 S2 => k sg2 (fun us hu => ?_) S2⟩
      rw [hw2 us (fun i hi => hu i (List.mem_append_right _ hi)), hw1 us (fun i hi => hu i (List.mem_append_left _ hi))]
theorem dg_tup {es : List Expr} {kk : Nat} {is : List Nat} {r : Sls -> List D -> Option Sls} {n : Nat} (hc : X.calm = true) (hlen : ∀ G ds G', r G ds = some G' -> ds.length = n) (h : PGs X es (gDs X dl is r))
    (hn : (assignEach es X.env).length = n := by rfl) (hst : (assignEach es X.env).findIdx? (·.1) = none := by rfl) : DG X dl (.Tuple es kk pos) is (sgT r) := by
  refine PG.of (pg_tup (n := n) hc h hn hst) fun v sg H Q q => ?_
  obtain ⟨F0, H0, F, G, s, d, G', w, S, rp, e, k⟩ := q
  unfold sgT at e
  cases d with
  | tup ds =>
    obtain ⟨a, vs, h1, h2, h3, h4⟩ := rp
    simp only [itemsT, Option.bind_some] at e
    exact ⟨a, vs, h1, Same.seqT w.sub h2, by rw [<- h4.length]; exact hlen _ _ _ e, F0, H0, F, G, s, ds, G', w, S, h4, e, k⟩
  | _ => simp [itemsT] at e
section
variable (X dl W)
def Keep {wd : World} {K : PySem.W.Frag} {mg : Str -> Option Value} (dl : Dr wd K mg) (H H1 : Hp) : Prop := ∀ b o, ¬ dl.has b -> H b = some o -> H1 b = some o
def DY (F : Hp) (ds : List D) : Nat -> Hp -> V -> Hp -> Prop := fun i H1 x H2 => ∀ F1 s, Same F F1 -> Wd dl F1 H1 s -> ∃ F2 d, Step dl F1 H1 F2 H2 /\ Wd dl F2 H2 s /\ ds[i]? = some d /\ Rep X.K X.mg dl F2 d x
def tIs (f : SA) : TI := fun sg H R => ∃ F, tGF X dl W F f (fun ds F' H' => ∀ J, ds.length <= sizeLine -> Walk J ds.length (fun H1 => Same F' H1) (DY X dl F' ds) -> R J H') sg H
def tIm (f : SA) : TI := fun sg H R => ∃ F, tGF X dl W F f (fun ds F' H' => ∀ J, ds.length <= sizeLine -> Walk J ds.length (fun H1 => Keep dl H' H1) (DY X dl F' ds) -> R J H') sg H
abbrev DIs (tg e : Expr) (f : SA) : Prop := PI X tg e (tIs X dl W f)
abbrev DIm (tg e : Expr) (f : SA) : Prop := PI X tg e (tIm X dl W f)
end
theorem dim_of {tg e : Expr} {f : SA} (h : DIs X dl W tg e f) : DIm X dl W tg e f := by
  refine PI.of h fun sg H R q => ?_
  obtain ⟨F, F0, H0, G, s, w, S, g⟩ := q
  refine ⟨F, F0, H0, G, s, w, S, g.imp fun ds s1 F1 H1 st1 w1 k J hz wk => k J hz ?_⟩
  exact wk.mono (fun H2 hk b o e => hk b o (fun z => by rw [w1.off b z] at e; cases e) (w1.sub b o e)) fun i H2 x H3 _ _ y => y
theorem dy_at {F : Hp} {ds : List D} {vs : List V} (r : RepL X.K X.mg dl F ds vs) : ∀ i H1 x H2, YAt vs i H1 x H2 -> DY X dl F ds i H1 x H2 := fun i H1 x H2 y F1 s sm w => by
  obtain ⟨e1, e2⟩ := y
  subst e1
  obtain ⟨d, h1, h2⟩ := r.get' e2
  exact ⟨F1, d, Step.refl, w, h1, Rep.mono sm d x h2⟩
def iAny (K : PySem.W.Frag) (tl : TE) : TI := fun sg H R => tl sg H fun x H1 => (∃ a, x = .ref a /\ (∃ xs, SqL K H1 a xs) /\ R (Itl K a) H1) \/ (∃ a, x = .ref a /\ (∃ xs, SqT K H1 a xs) /\ R (Itt K a) H1) \/ ∃ z, x = .str z /\ R (Its z) H1
theorem pi_any {tg l : Expr} {tl : TE} (hl : PE X l tl) : PI X tg l (iAny X.K tl) := by
  refine ⟨fun pins s sg H R I h => ?_⟩
  refine thn (hl.run pins s sg H _ I h) fun v s1 ⟨x, H1, I1, r1, q1⟩ => ?_
  rcases q1 with ⟨a, e, ⟨xs, hq⟩, q⟩ | ⟨a, e, ⟨xs, hq⟩, q⟩ | ⟨z, e, q⟩
  · subst e
    cases r1
    obtain ⟨its, rv, p, hz⟩ := I1.list hq
    refine wpAny_pyIter_list p.isList ?_
    refine ⟨s1.heap.objs.size, [s1.heap.objs.size], _, _, H1, rfl, I1.kept (t' := s1.toks) fun b o e => Heap.get?_push_of_some _ e, turn_list a _, ⟨_, Heap.get?_push_size _ rfl, rfl, rfl⟩, fun b hb => ?_, q⟩
    have e : b = s1.heap.objs.size := by simpa using hb
    subst e
    exact I1.fpOk (Nat.le_refl _) (I1.hok.fresh (Nat.le_refl _))
  · subst e
    cases r1
    obtain ⟨its, rv, p, hz⟩ := I1.tuple hq
    refine wpAny_pyIter_tuple (show s1.heap.IsTuple a its.toArray from p) ?_
    refine ⟨s1.heap.objs.size, [s1.heap.objs.size], _, _, H1, rfl, I1.kept (t' := s1.toks) fun b o e => Heap.get?_push_of_some _ e, turn_tuple a _, ⟨_, Heap.get?_push_size _ rfl, rfl, rfl⟩, fun b hb => ?_, q⟩
    have e : b = s1.heap.objs.size := by simpa using hb
    subst e
    exact I1.fpOk (Nat.le_refl _) (I1.hok.fresh (Nat.le_refl _))
  · subst e
    obtain ⟨t, rfl⟩ := r1
    cases ha : z.cps.all (· < 128)
    · exact wpAny_pyIter_wide ha (pi_one (tk := s1.toks) I1 _ (turn_str _ z t "str_iterator" (.inr rfl)) ⟨_, Heap.get?_push_size _ rfl, rfl, rfl⟩ q)
    · exact wpAny_pyIter_ascii ha (pi_one (tk := s1.toks) I1 _ (turn_str _ z t "str_ascii_iterator" (.inl rfl)) ⟨_, Heap.get?_push_size _ rfl, rfl, rfl⟩ q)
def chars (x : Str) : List D := x.cps.toList.map fun c => .str ⟨#[c]⟩
def itemsOf : D -> Option (List D)
  | .lst xs => some xs
  | .tup xs => some xs
  | .str x => if x.cps.size <= 1000000 then some (chars x) else none
  | .scr xs => some (xs.map D.int)
  | _ => none
def gIt (f : SE) : SA := fun G => bnd (f G) fun d => ofO (itemsOf d)
theorem repL_ints {K : PySem.W.Frag} {mg : Str -> Option Value} {wd : World} {dl : Dr wd K mg} {F : Hp} : ∀ xs : List Int, RepL K mg dl F (xs.map D.int) (xs.map V.int)
  | [] => rfl
  | x :: xs => ⟨_, _, rfl, rfl, repL_ints xs⟩
theorem di_seq {tg e : Expr} {f : SE} (h : DE X dl W e f) : DIs X dl W tg e (gIt f) := by
  refine PI.of (pi_any h) fun sg H R q => ?_
  obtain ⟨F, q⟩ := q
  refine ⟨F, q.bnd.imp fun d F1 H1 ⟨st1, q1⟩ v rv => ?_⟩
  obtain ⟨ds, s, e1, w, q2⟩ := q1.op
  have q3 := q2 F1 H1 Step.refl w
  cases d with
  | lst ys =>
    cases e1
    obtain ⟨a, vs, h1, h2, h3, h4⟩ := rv
    refine .inl ⟨a, h1, ⟨vs, SqL.of (w.sub _ _ h2)⟩, q3 _ (by rw [h4.length]; exact h3) ?_⟩
    rw [h4.length]
    exact walk_list.mono (fun H2 sm => SqL.of (sm _ _ h2)) fun i H2 x H3 _ _ y => dy_at h4 i H2 x H3 y
  | tup ys =>
    cases e1
    obtain ⟨a, vs, h1, h2, h3, h4⟩ := rv
    refine .inr (.inl ⟨a, h1, ⟨vs, Same.seqT w.sub h2⟩, q3 _ (by rw [h4.length]; exact h3) ?_⟩)
    rw [h4.length]
    exact walk_tup.mono (fun H2 sm => Same.seqT sm h2) fun i H2 x H3 _ _ y => dy_at h4 i H2 x H3 y
  | scr ys =>
    cases e1
    obtain ⟨a, h1, h2, h3⟩ := rv
    refine .inl ⟨a, h1, ⟨_, L2.Same.seq w.sub h2⟩, q3 _ (by rw [List.length_map, sizeLine_eq]; omega) ?_⟩
    have hr : RepL X.K X.mg dl F1 (ys.map D.int) (ys.map V.int) := repL_ints ys
    rw [hr.length]
    exact walk_list.mono (fun H2 sm => L2.Same.seq sm h2) fun i H2 x H3 _ _ y => dy_at hr i H2 x H3 y
  | str z =>
    have e1 : (if z.cps.size <= 1000000 then some (chars z) else none) = some ds := e1
    by_cases hz : z.cps.size <= 1000000
    case neg => rw [if_neg hz] at e1; cases e1
    rw [if_pos hz] at e1
    cases e1
    have rv : v = .str z := rv
    have hl : (chars z).length = z.cps.size := by simp [chars]
    refine .inr (.inr ⟨z, rv, q3 _ (by rw [hl, sizeLine_eq]; omega) ?_⟩)
    rw [hl]
    refine walk_str.mono (fun _ _ => trivial) fun i H2 x H3 _ _ y F2 s2 sm w2 => ?_
    obtain ⟨y1, c, y2, y3⟩ := y
    subst y1
    refine ⟨F2, .str ⟨#[c]⟩, Step.refl, w2, ?_, y3⟩
    simp [chars, y2]
  | non => cases e1
  | bl _ => cases e1
  | int _ => cases e1
  | obj _ _ _ => cases e1
  | drw => cases e1
  | dct _ _ => cases e1
  | dcT _ _ => cases e1
  | dcN _ _ => cases e1
  | exm _ _ => cases e1
  | ptp _ => cases e1
  | mob _ _ _ => cases e1
  | exc _ _ _ => cases e1
def gItO (i : Nat) : SA := fun G => match G[i]? with
  | some (some (.own ds)) => ret ds
  | _ => fail
theorem own_get {i : Nat} {G : Sls} {s : DS} {r : Res (List D)} {s' : DS} (h : gItO i G s = some (r, s')) : ∃ ds, G[i]? = some (some (.own ds)) /\ r = .ok ds /\ s' = s := by
  unfold gItO at h
  cases e1 : G[i]? with
  | none => simp only [e1] at h; cases h
  | some o =>
    cases o with
    | none => simp only [e1] at h; cases h
    | some sl =>
      cases sl with
      | fz _ => simp only [e1] at h; cases h
      | ini _ _ _ => simp only [e1] at h; cases h
      | ownX _ _ => simp only [e1] at h; cases h
      | ownP pp _ _ => simp only [e1] at h; cases h
      | tree _ => simp only [e1] at h; cases h
      | own ds =>
        simp only [e1] at h
        cases h
        exact ⟨ds, rfl, rfl, rfl⟩
theorem di_own {tg e : Expr} {i : Nat} (h : PE X e (tVar i)) : DIm X dl W tg e (gItO i) := by
  refine PI.of (pi_any h) fun sg H R q => ?_
  obtain ⟨F, F0, H0, G, s, w, S, g⟩ := q
  cases e : gItO i G s with
  | none => rw [e] at g; exact g.elim
  | some p =>
    obtain ⟨r, s'⟩ := p
    obtain ⟨ds, e1, rfl, rfl⟩ := own_get e
    rw [e] at g
    obtain ⟨v, h1, a, vs, rfl, h3, h4, h5, h6, h7, h8⟩ := S.sl i _ e1
    refine ⟨.ref a, h1, .inl ⟨a, rfl, ⟨vs, SqL.of h3⟩, g F H Step.refl w _ (by rw [h8.length]; exact h7) ?_⟩⟩
    rw [h8.length]
    exact walk_list.mono (fun H2 sm => SqL.of (sm a _ h6 h3)) fun i H2 x H3 _ _ y => dy_at h8 i H2 x H3 y
def upFrom (lo : Int) (n : Nat) : List D := (List.range n).map fun i => .int (lo + (i : Nat))
theorem upFrom_length (lo : Int) (n : Nat) : (upFrom lo n).length = n := by simp [upFrom]
def rng1 : List D -> Option (List D)
  | [.int n] => if -1000000 <= n /\ n < 1000000 then some (upFrom 0 n.toNat) else none
  | _ => none
def rng2 : List D -> Option (List D)
  | [.int a, .int b] => if -1000000 <= a /\ a < 1000000 /\ -1000000 <= b /\ b < 1000000 then some (upFrom a (b - a).toNat) else none
  | _ => none
theorem rng1_some {ds xs : List D} (h : rng1 ds = some xs) : ∃ n : Int, ds = [.int n] /\ -1000000 <= n /\ n < 1000000 /\ xs = upFrom 0 n.toNat := by
  unfold rng1 at h
  split at h
  · split at h
    · rename_i hb
      cases h
      exact ⟨_, rfl, hb.1, hb.2, rfl⟩
    · cases h
  · cases h
theorem rng2_some {ds xs : List D} (h : rng2 ds = some xs) : ∃ a b : Int, ds = [.int a, .int b] /\ (-1000000 <= a /\ a < 1000000 /\ -1000000 <= b /\ b < 1000000) /\ xs = upFrom a (b - a).toNat := by
  unfold rng2 at h
  split at h
  · split at h
    · rename_i hb
      cases h
      exact ⟨_, _, rfl, hb, rfl⟩
    · cases h
  · cases h
def gItC (k : List D -> Option (List D)) (r : SA) : SA := fun G => bnd (r G) fun ds => ofO (k ds)
theorem walk_up {F : Hp} (lo : Int) (n : Nat) : Walk (Itr lo n) (upFrom lo n).length (fun H1 => Same F H1) (DY X dl F (upFrom lo n)) := by
  rw [upFrom_length]
  refine walk_range.mono (fun _ _ => trivial) fun i H2 x H3 hi _ y F2 s2 sm w2 => ?_
  obtain ⟨y1, y2⟩ := y
  subst y1
  refine ⟨F2, .int (lo + i), Step.refl, w2, ?_, y2⟩
  simp [upFrom, hi]
end
end
section
section
variable {X : Cx} {dl : Dr X.w X.K X.mg} {W : WX} {pos p tpos : Pos}
theorem di_range1 {tg a : Expr} {r : SA} (hg : Gl X "range") (hm : X.mg "range" = none) (ha : DA X dl W [a] r) (hs : starEach [a] X.env = [(false, eval a X.env)] := by rfl) : DIs X dl W tg (.Call (.Name "range" p) [a] [] pos) (gItC rng1 r) := by
  refine PI.of (pi_range1 hg hm ha hs) fun sg H R q => ?_
  obtain ⟨F, q⟩ := q
  refine ⟨F, q.bnd.imp fun ds F1 H1 ⟨st1, q1⟩ vs rvs => ?_⟩
  obtain ⟨xs, s, e1, w, q2⟩ := q1.op
  obtain ⟨n, rfl, hb1, hb2, rfl⟩ := rng1_some e1
  obtain ⟨v, vs', rfl, h1, h2⟩ := rvs
  have h1 : v = .int n := h1
  have h2 : vs' = [] := h2
  subst h1; subst h2
  exact ⟨n, rfl, by omega, by omega, q2 F1 H1 Step.refl w _ (by rw [upFrom_length, sizeLine_eq]; omega) (walk_up 0 n.toNat)⟩
theorem di_range2 {tg a b : Expr} {r : SA} (hg : Gl X "range") (hm : X.mg "range" = none) (ha : DA X dl W [a, b] r) (hs : starEach [a, b] X.env = [(false, eval a X.env), (false, eval b X.env)] := by rfl) (hs2 : starEach [b] X.env = [(false, eval b X.env)] := by rfl) :
    DIs X dl W tg (.Call (.Name "range" p) [a, b] [] pos) (gItC rng2 r) := by
  refine PI.of (pi_range2 hg hm ha hs hs2) fun sg H R q => ?_
  obtain ⟨F, q⟩ := q
  refine ⟨F, q.bnd.imp fun ds F1 H1 ⟨st1, q1⟩ vs rvs => ?_⟩
  obtain ⟨xs, s, e1, w, q2⟩ := q1.op
  obtain ⟨m, n, rfl, hb, rfl⟩ := rng2_some e1
  obtain ⟨v, vs', rfl, h1, u, us', rfl, h2, h3⟩ := rvs
  have h1 : v = .int m := h1
  have h2 : u = .int n := h2
  have h3 : us' = [] := h3
  subst h1; subst h2; subst h3
  exact ⟨m, n, rfl, by omega, q2 F1 H1 Step.refl w _ (by rw [upFrom_length, sizeLine_eq]; omega) (walk_up m (n - m).toNat)⟩
def zipD (xs ys : List D) : List D := (xs.zip ys).map fun p => .tup [p.1, p.2]
def zip2 : List D -> Option (List D)
  | [.lst xs, .lst ys] => some (zipD xs ys)
  | [.tup xs, .tup ys] => some (zipD xs ys)
  | _ => none
theorem two_le : (2 : Nat) <= sizeLine := by rw [sizeLine_eq]; decide
theorem walk_zipT {K : PySem.W.Frag} {a b : Addr} {xs ys : List V} {n : Nat} (hn : n = min xs.length ys.length) : Walk (RZ.ItzT K a b) n (fun H => SqT K H a xs /\ SqT K H b ys) (YPair (fun i => xs[i]?) (fun i => ys[i]?)) := by
  subst hn
  refine ⟨fun i _ hi q => ?_, fun _ q => ⟨xs, ys, q.1, q.2, by omega⟩, fun i H v H' _ q y => ?_⟩
  · have h1 : i < xs.length := by omega
    have h2 : i < ys.length := by omega
    exact ⟨xs, ys, xs[i], ys[i], q.1, q.2, by simp [h1], by simp [h2]⟩
  · obtain ⟨T, x, z, h1, h2, h3, h4, h5⟩ := y
    exact ⟨T, x, z, h1, h2, h3, h4 xs q.1, h5 ys q.2⟩
theorem dy_pair {F : Hp} {ds es : List D} {vs us : List V} (r : RepL X.K X.mg dl F ds vs) (r' : RepL X.K X.mg dl F es us) : ∀ i H1 x H2, YPair (fun i => vs[i]?) (fun i => us[i]?) i H1 x H2 -> DY X dl F (zipD ds es) i H1 x H2 := fun i H1 x H2 y F1 s sm w => by
  obtain ⟨T, a, b, e1, e2, e3, e4, e5⟩ := y
  subst e1; subst e3
  obtain ⟨d, h1, h2⟩ := r.get' e4
  obtain ⟨e, h3, h4⟩ := r'.get' e5
  have hz : (zipD ds es)[i]? = some (.tup [d, e]) := by
    unfold zipD
    rw [List.getElem?_map, List.getElem?_zip_eq_some (z := (d, e)) |>.mpr ⟨h1, h3⟩]
    rfl
  exact ⟨_, .tup [d, e], Step.new w e2, w.new e2, hz, T, [a, b], rfl, SqT.of upd_same, two_le, a, [b], rfl, Rep.mono (Step.new w e2).fs _ _ (Rep.mono sm _ _ h2), b, [], rfl, Rep.mono (Step.new w e2).fs _ _ (Rep.mono sm _ _ h4), rfl⟩
theorem zipD_length (xs ys : List D) : (zipD xs ys).length = min xs.length ys.length := by simp [zipD]
theorem di_zip {a b : Expr} {r : SA} {elts : List Expr} {kk : Nat} (hg : Gl X "zip") (hm : X.mg "zip" = none) (ha : DA X dl W [a, b] r)
    (hs : starEach [a, b] X.env = (false, eval a X.env) :: starEach [b] X.env := by rfl) (hpl : (backTo pos (starEach [b] X.env)).any (·.1) = false := by rfl) :
    DIs X dl W (.Tuple elts kk tpos) (.Call (.Name "zip" p) [a, b] [] pos) (gItC zip2 r) := by
  refine PI.of (RZ.pi_zipA hg hm ha hs hpl) fun sg H R q => ?_
  obtain ⟨F, q⟩ := q
  refine ⟨F, q.bnd.imp fun ds F1 H1 ⟨st1, q1⟩ vs rvs => ?_⟩
  obtain ⟨zs, s, e1, w, q2⟩ := q1.op
  have q3 := q2 F1 H1 Step.refl w
  unfold zip2 at e1
  split at e1
  · rename_i xs ys
    obtain ⟨v, vs', rfl, ⟨a1, v1, rfl, h2, h3, h4⟩, u, us', rfl, ⟨a2, v2, rfl, h5, h6, h7⟩, h8⟩ := rvs
    have h8 : us' = [] := h8
    subst h8
    cases e1
    refine ⟨a1, a2, v1, v2, rfl, .inl ⟨SqL.of (w.sub _ _ h2), SqL.of (w.sub _ _ h5), q3 _ (by rw [zipD_length, h4.length, h7.length]; omega) ?_⟩⟩
    rw [zipD_length, h4.length, h7.length]
    exact (walk_zip rfl).mono (fun H2 sm => ⟨SqL.of (sm _ _ h2), SqL.of (sm _ _ h5)⟩) fun i H2 x H3 _ _ y => dy_pair h4 h7 i H2 x H3 y
  · rename_i xs ys
    obtain ⟨v, vs', rfl, ⟨a1, v1, rfl, h2, h3, h4⟩, u, us', rfl, ⟨a2, v2, rfl, h5, h6, h7⟩, h8⟩ := rvs
    have h8 : us' = [] := h8
    subst h8
    cases e1
    refine ⟨a1, a2, v1, v2, rfl, .inr ⟨Same.seqT w.sub h2, Same.seqT w.sub h5, q3 _ (by rw [zipD_length, h4.length, h7.length]; omega) ?_⟩⟩
    rw [zipD_length, h4.length, h7.length]
    exact (walk_zipT rfl).mono (fun H2 sm => ⟨Same.seqT sm h2, Same.seqT sm h5⟩) fun i H2 x H3 _ _ y => dy_pair h4 h7 i H2 x H3 y
  · cases e1
def wipeG (G : Sls) : List Nat -> Sls
  | [] => G
  | v :: vs => (wipeG G vs).set v none
theorem wipeG_length (G : Sls) : ∀ vs : List Nat, (wipeG G vs).length = G.length
  | [] => rfl
  | v :: vs => by unfold wipeG; rw [List.length_set, wipeG_length G vs]
theorem wipeG_some {G : Sls} {i : Nat} {x : Sl} : ∀ {vs : List Nat}, (wipeG G vs)[i]? = some (some x) -> G[i]? = some (some x) /\ i ∉ vs
  | [], h => ⟨h, by simp⟩
  | v :: vs, h => by
    unfold wipeG at h
    by_cases z : v = i
    · subst z
      rw [List.getElem?_set] at h
      simp at h
    · rw [List.getElem?_set_ne z] at h
      obtain ⟨h1, h2⟩ := wipeG_some h
      exact ⟨h1, by simp [h2, Ne.symm z]⟩
theorem wipe_keep {sg : L2.St} {i : Nat} : ∀ {vs : List Nat}, i ∉ vs -> (wipe sg vs)[i]? = sg[i]?
  | [], _ => rfl
  | v :: vs, h => by
    unfold wipe
    rw [List.getElem?_set_ne (fun z => h (by simp [z]))]
    exact wipe_keep fun z => h (by simp [z])
theorem Sim.wipe {K : PySem.W.Frag} {mg : Str -> Option Value} {wd : World} {dl : Dr wd K mg} {F0 H0 F H : Hp} {sg : L2.St} {G : Sls} (S : Sim K mg dl F0 H0 F H sg G) (vs : List Nat) : Sim K mg dl F0 H0 F H (L2.wipe sg vs) (wipeG G vs) := by
  refine ⟨by rw [wipeG_length, wipe_length]; exact S.len, fun i s e => ?_, fun i j s t e1 e2 o1 o2 e3 => ?_, S.st, S.tr.keep (fun j t e => ⟨(wipeG_some e).1, wipe_keep (wipeG_some e).2⟩) (fun _ _ z => z) (fun _ _ _ _ _ _ _ _ hf _ => ⟨rfl, hf⟩) fun fp T j s a ej o es i t ei => T.nx i j t s a ei (wipeG_some ej).1 o (by rw [<- wipe_keep (wipeG_some ej).2]; exact es)⟩
  · obtain ⟨h1, h2⟩ := wipeG_some e
    rw [wipe_keep h2]
    exact S.sl i s h1
  · obtain ⟨h1, h2⟩ := wipeG_some e1
    obtain ⟨h3, h4⟩ := wipeG_some e2
    rw [wipe_keep h2, wipe_keep h4] at e3
    exact S.dis i j s t h1 h3 o1 o2 e3
def lcM (f : SG) (u : ST) (h : SE) (G : Sls) : List D -> M (List D)
  | [] => ret []
  | d :: ds => bnd (ofO (f G d)) fun G' => bnd (u G') fun k => if k then bnd (h G') fun y => bnd (lcM f u h G ds) fun r => ret (y :: r) else lcM f u h G ds
def gLc (vs : List Nat) (it : SA) (f : SG) (u : ST) (h : SE) : SA := fun G => bnd (it G) fun ds => noErr (lcM f u h (wipeG G vs) ds)
def yes : ST := fun _ => ret true
abbrev WF : WX := fun _ _ _ _ => False
theorem dts_nil : PTs X [] (tDT X dl W yes) := ⟨fun pins s sg H Q I h => pts_nil.run pins s sg H Q I (by obtain ⟨F, q⟩ := h; exact q.rt)⟩
theorem dts_one {c : Expr} {u : ST} (h : DT X dl W c u) : PTs X [c] (tDT X dl W u) := pts_one h
theorem lcR {own : List (Str × Nat)} {it : SA} {is : List Nat} {f : SG} {u : ST} {h : SE} {sg : L2.St} {H : Hp} {Q : VK} (hv : ∀ i ∈ is, i ∈ own.map (·.2)) (q : tDO X dl W (gLc (own.map (·.2)) it f u h) sg H Q) :
    tLc (tIm X dl W it) (gD X dl is f) (tDT X dl WF u) (tD X dl WF h) (own.map (·.2)) sg H Q := by
  obtain ⟨F, F0, H0, G, s, w, S, g⟩ := q
  refine ⟨F, F0, H0, G, s, w, S, Go.imp (Go.at Step.refl g) fun ds s1 F1 H1 st1 w1 g1 J dlen wk Dd hD => ?_⟩
  have g2 := Go.noErr g1
  clear g1 g
  have S1 := S.step st1
  have hDH : H Dd = none := st1.al Dd hD
  have ndD : ¬ dl.has Dd := w1.na hD
  refine lc_it wk (fun i H' => ∃ (F' : Hp) (s' : DS) (acc : List D) (accv : List V), Wd dl F' H' s' /\ Step dl F1 H1 F' H' /\ F' Dd = none /\ H' Dd = some (.lst accv) /\ RepL X.K X.mg dl F' acc accv /\ accv.length <= i /\
      Go X.mg X.K dl (fun _ _ _ => False) F H (lcM f u h (wipeG G (own.map (·.2))) (ds.drop i) s') fun r _ F2 H2 => ∀ a, NewL X dl H (acc ++ r) F2 H2 a -> Q (.ref a) H2) ?_ ?_ ?_ ?_
  · refine ⟨F1, s1, [], [], w1.newO hD, Step.newO hD, w1.fnone hD, upd_same, rfl, Nat.le_refl _, ?_⟩
    simpa using g2
  · rintro i H' hi ⟨F', s', acc, accv, w', st', _⟩ b o nb e
    exact st'.hs b o nb e
  · rintro i x H' H2 hi ⟨F', s', acc, accv, w', st', n', hd', ra, la, go⟩ y
    obtain ⟨F2, d, st2, w2, e2, r2⟩ := y F' s' st'.fs w'
    have hlt : i < ds.length := hi
    have ed : ds.drop i = d :: ds.drop (i + 1) := by
      rw [List.drop_eq_getElem_cons hlt]
      have : ds[i] = d := by
        rw [List.getElem?_eq_getElem hlt] at e2
        exact Option.some.inj e2
      rw [this]
    rw [ed] at go
    have st02 : Step dl F H F2 H2 := st1.trans (st'.trans st2)
    have go1 := Go.at (F1 := F2) (H1 := H2) st02 go
    obtain ⟨G', eG, go2⟩ := go1.ofO
    have go3 := go2 F2 H2 Step.refl w2
    clear go go1 go2
    have nD2 : F2 Dd = none := by
      cases q : F2 Dd with
      | none => rfl
      | some o =>
        rcases st2.nw Dd o q with z | z
        · rw [n'] at z; cases z
        · rw [hd'] at z; cases z
    have hD2 : H2 Dd = some (.lst accv) := st2.hs Dd _ ndD hd'
    refine ⟨F0, H0, F2, wipeG G (own.map (·.2)), s', d, G', w2, (S1.step (st'.trans st2)).wipe _, r2, eG, fun sg2 hw2 S2 => ⟨?_, ?_⟩⟩
    · have e := hw2 (own.map (·.2)) hv
      have id2 : L2.wipe (L2.wipe sg (own.map (·.2))) (own.map (·.2)) = L2.wipe sg (own.map (·.2)) := by
        apply List.ext_getElem?
        intro j
        by_cases hj : j ∈ own.map (·.2)
        · have wn : ∀ (tg : L2.St) (vs : List Nat), j ∈ vs -> (L2.wipe tg vs)[j]? = if j < tg.length then some none else none := by
            intro tg vs
            induction vs with
            | nil => intro h; simp at h
            | cons v vs ih =>
              intro hm
              unfold L2.wipe
              by_cases hvj : v = j
              · subst hvj
                rw [List.getElem?_set, wipe_length]
                simp
              · rw [List.getElem?_set_ne hvj]
                exact ih (by
                  rcases List.mem_cons.mp hm with z | z
                  · exact absurd z.symm hvj
                  · exact z)
          rw [wn _ _ hj, wn _ _ hj, wipe_length]
        · rw [wipe_keep hj]
      rw [e, id2]
    · refine ⟨F2, F0, H0, G', s', w2, S2, Go.imp (Go.at st02 go3) fun k s3 F3 H3 st3 w3 go4 => ?_⟩
      have st03 := st02.trans st3
      have nD3 : F3 Dd = none := by
        cases q : F3 Dd with
        | none => rfl
        | some o =>
          rcases st3.nw Dd o q with z | z
          · rw [nD2] at z; cases z
          · rw [hD2] at z; cases z
      have hD3 : H3 Dd = some (.lst accv) := st3.hs Dd _ ndD hD2
      cases k with
      | false =>
        refine iteF ?_
        exact ⟨F3, s3, acc, accv, w3, st'.trans (st2.trans st3), nD3, hD3, RepL.mono (st2.trans st3).fs _ _ ra, Nat.le_succ_of_le la, go4⟩
      | true =>
        refine iteT ?_
        refine ⟨F3, F0, H0, G', s3, w3, S2.step st3, Go.imp (Go.at st03 go4) fun yv s4 F4 H4 st4 w4 go5 v rv => ?_⟩
        have nD4 : F4 Dd = none := by
          cases q : F4 Dd with
          | none => rfl
          | some o =>
            rcases st4.nw Dd o q with z | z
            · rw [nD3] at z; cases z
            · rw [hD3] at z; cases z
        have hD4 : H4 Dd = some (.lst accv) := st4.hs Dd _ ndD hD3
        refine ⟨accv, hD4, by omega, F4, s4, acc ++ [yv], accv ++ [v], ?_, ?_, nD4, upd_same, (RepL.mono ((st2.trans st3).trans st4).fs _ _ ra).append ⟨v, [], rfl, rv, rfl⟩, by simp; omega, ?_⟩
        · refine ⟨fun b o e => ?_, w4.off, ?_, w4.tb.upd (fun _ _ e => e) (fun q hq z => ndD (.inr (.inr (.inr (.inl ⟨q.2, by rw [<- z]; exact hq⟩))))) (fun _ z => by cases z) (.inl fun _ _ z => by unfold LamX.CodeO at z; cases z), w4.ob.set (fun _ _ e => e) fun ac q hq m => ndD (.inr (.inr (.inr (.inr ⟨ac, q, m, hq⟩))))⟩
          · rw [upd_ne (ne_of_none e nD4)]; exact w4.sub b o e
          · obtain ⟨d1, d2, d3, d4⟩ := w4.dr
            exact ⟨by rw [upd_ne (fun z => ndD (by rw [<- z]; exact .inl rfl))]; exact d1, by rw [upd_ne (fun z => ndD (by rw [<- z]; exact .inr (.inl rfl)))]; exact d2, by rw [upd_ne (fun z => ndD (by rw [<- z]; exact .inr (.inr (.inl rfl))))]; exact d3, d4⟩
        · have st14 : Step dl F1 H1 F4 H4 := st'.trans ((st2.trans st3).trans st4)
          exact ⟨st14.fs, fun b o nb e => by rw [upd_ne (ne_of_none e hD)]; exact st14.hs b o nb e, st14.nw, fun b e => by
            by_cases z : b = Dd
            · subst z; exact hD
            · rw [upd_ne z] at e; exact st14.al b e⟩
        · have go6 := Go.at (F1 := F) (H1 := H) Step.refl go5
          refine Go.imp go6 fun r s5 F5 H5 st5 w5 go7 => ?_
          have go8 := go7 F5 H5 st5 w5
          intro a na
          exact go8 a (by simpa using na)
  · rintro H' ⟨F', s', acc, accv, w', st', n', hd', ra, la, go⟩
    rw [List.drop_length] at go
    exact go F' H' (st1.trans st') w' Dd ⟨hDH, n', accv, hd', by
      omega, by simpa using ra⟩
theorem deo_lc {elt tg iter : Expr} {ifs : List Expr} {scope : Scope} {own : List (Str × Nat)} {it : SA} {is : List Nat} {f : SG} {u : ST} {h : SE} (hc : X.calm = true) (hN : X.N.Nodup) (hi : DIm X dl W tg iter it) (ok : BlkOk X.N X.env.scope scope own) (hv : ∀ i ∈ is, i ∈ own.map (·.2))
    (hg : ∀ (s : Shared) (H : Hp) (C : Addr) (cl : List (Str × Addr)) (fp : List Addr), DG (X.blk s H scope (compEnvC scope cl C X.env) fp) dl tg is f)
    (ht : ∀ (s : Shared) (H : Hp) (C : Addr) (cl : List (Str × Addr)) (fp : List Addr), PTs (X.blk s H scope (compEnvC scope cl C X.env) fp) ifs (tDT (X.blk s H scope (compEnvC scope cl C X.env) fp) dl WF u))
    (he : ∀ (s : Shared) (H : Hp) (C : Addr) (cl : List (Str × Addr)) (fp : List Addr), DE (X.blk s H scope (compEnvC scope cl C X.env) fp) dl WF elt h) (hs : ∀ x, foldedSetIterable iter X.env x = pure x := by intro _; rfl) :
    DEO X dl W (.ListComp elt [{ target := tg, iter := iter, ifs := ifs, is_async := 0 }] scope pos) (gLc (own.map (·.2)) it f u h) :=
  PE.of (pe_lc (tt := tDT X dl WF u) (te := tD X dl WF h) (g := gD X dl is f) hc hN hi ok hg ht he hs) fun sg H Q q => lcR hv q
end
end
section
inductive Out where
  | next (G : Sls) | ret (d : D) | brk (G : Sls) | cont (G : Sls)
abbrev SS := Sls -> M Out
section
variable (X : Cx) (dl : Dr X.w X.K X.mg) (W : WX)
def GoS (F0 H0 F : Hp) (r : Option (Res Out × DS)) (E : Ends) : Prop := match r with
  | none => False
  | some (.ok (.next G), s') => ∀ F' H' sg', Same F F' -> Wd dl F' H' s' -> Sim X.K X.mg dl F0 H0 F' H' sg' G -> E.nx sg' H'
  | some (.ok (.brk G), s') => ∀ F' H' sg', Same F F' -> Wd dl F' H' s' -> Sim X.K X.mg dl F0 H0 F' H' sg' G -> E.bk sg' H'
  | some (.ok (.cont G), s') => ∀ F' H' sg', Same F F' -> Wd dl F' H' s' -> Sim X.K X.mg dl F0 H0 F' H' sg' G -> E.ct sg' H'
  | some (.ok (.ret d), s') => ∀ F' H' v, Step dl F0 H0 F' H' -> Wd dl F' H' s' -> Rep X.K X.mg dl F' d v -> E.rt v H'
  | some (.err x, s') => ∀ F' H' sg' cls d, Step dl F0 H0 F' H' -> Wd dl F' H' s' -> ExRep X.mg X.K dl F' H' x cls d -> W cls d sg' H'
def tS (f : SS) : TS := fun E sg H => ∃ (F0 H0 F : Hp) (G : Sls) (s : DS), Wd dl F H s /\ Sim X.K X.mg dl F0 H0 F H sg G /\ GoS X dl W F0 H0 F (f G s) E
abbrev DSt (st : Stmt) (f : SS) : Prop := PS X st (tS X dl W f)
abbrev DSs (st : List Stmt) (f : SS) : Prop := PSs X st (tS X dl W f)
end
section
variable {X : Cx} {dl : Dr X.w X.K X.mg} {W : WX} {pos : Pos} {F0 H0 F H : Hp} {E : Ends}
theorem GoS.mono {F1 : Hp} {r : Option (Res Out × DS)} (h : GoS X dl W F0 H0 F r E) (sm : Same F F1) : GoS X dl W F0 H0 F1 r E := by
  cases r with
  | none => exact h
  | some p =>
    obtain ⟨r, s1⟩ := p
    cases r with
    | err x => exact h
    | ok o =>
      cases o with
      | next G => exact fun F' H' sg' m => h F' H' sg' fun b o e => m b o (sm b o e)
      | brk G => exact fun F' H' sg' m => h F' H' sg' fun b o e => m b o (sm b o e)
      | cont G => exact fun F' H' sg' m => h F' H' sg' fun b o e => m b o (sm b o e)
      | ret d => exact h
theorem GoS.ex {α : Type} {m : M α} {k : α -> M Out} {s : DS} {sg : L2.St} (st : Step dl F0 H0 F H) (h : GoS X dl W F0 H0 F (bnd m k s) E) :
    Go X.mg X.K dl (fun c d H' => W c d sg H') F H (m s) fun a s1 _ _ => GoS X dl W F0 H0 F (k a s1) E := by
  unfold bnd at h
  cases e : m s with
  | none => rw [e] at h; exact h
  | some p =>
    obtain ⟨r, s1⟩ := p
    rw [e] at h
    cases r with
    | err x => exact fun F' H' cls d st' w' xr => h F' H' sg cls d (st.trans st') w' xr
    | ok a => exact fun F' H' st' w' => h
theorem GoS.ofO {α : Type} {o : Option α} {k : α -> M Out} {s : DS} (h : GoS X dl W F0 H0 F (bnd (EK.ofO o) k s) E) : ∃ a, o = some a /\ GoS X dl W F0 H0 F (k a s) E := by
  cases o with
  | none => exact h.elim
  | some a => exact ⟨a, rfl, h⟩
theorem GoS.st {m : M Out} {k : Out -> M Out} {s : DS} {E' : Ends} (h : GoS X dl W F0 H0 F (bnd m k s) E)
    (hn : ∀ G s1, GoS X dl W F0 H0 F (k (.next G) s1) E -> ∀ F' H' sg', Same F F' -> Wd dl F' H' s1 -> Sim X.K X.mg dl F0 H0 F' H' sg' G -> E'.nx sg' H')
    (hb : ∀ G s1, GoS X dl W F0 H0 F (k (.brk G) s1) E -> ∀ F' H' sg', Same F F' -> Wd dl F' H' s1 -> Sim X.K X.mg dl F0 H0 F' H' sg' G -> E'.bk sg' H')
    (hc : ∀ G s1, GoS X dl W F0 H0 F (k (.cont G) s1) E -> ∀ F' H' sg', Same F F' -> Wd dl F' H' s1 -> Sim X.K X.mg dl F0 H0 F' H' sg' G -> E'.ct sg' H')
    (hr : ∀ d s1, GoS X dl W F0 H0 F (k (.ret d) s1) E -> ∀ F' H' v, Step dl F0 H0 F' H' -> Wd dl F' H' s1 -> Rep X.K X.mg dl F' d v -> E'.rt v H') : GoS X dl W F0 H0 F (m s) E' := by
  unfold bnd at h
  cases e : m s with
  | none => rw [e] at h; exact h
  | some p =>
    obtain ⟨r, s1⟩ := p
    rw [e] at h
    cases r with
    | err x => exact h
    | ok o =>
      cases o with
      | next G => exact hn G s1 h
      | brk G => exact hb G s1 h
      | cont G => exact hc G s1 h
      | ret d => exact hr d s1 h
def sNil : SS := fun G => ret (.next G)
def sSeq (f g : SS) : SS := fun G => bnd (f G) fun o => match o with
  | .next G' => g G'
  | o => ret o
theorem dss_nil : DSs X dl W [] sNil := by
  refine PSs.of pss_nil fun E sg H q => ?_
  obtain ⟨F0, H0, F, G, s, w, S, g⟩ := q
  exact g F H sg (fun _ _ h => h) w S
theorem dss_cons {st : Stmt} {rest : List Stmt} {f g : SS} (h1 : DSt X dl W st f) (h2 : DSs X dl W rest g) : DSs X dl W (st :: rest) (sSeq f g) := by
  refine PSs.of (pss_cons h1 h2) fun E sg H q => ?_
  obtain ⟨F0, H0, F, G, s, w, S, go⟩ := q
  refine ⟨F0, H0, F, G, s, w, S, go.st (fun G1 s1 g1 F' H' sg' sm w' S' => ?_) (fun G1 s1 g1 => g1) (fun G1 s1 g1 => g1) (fun d s1 g1 => g1)⟩
  exact ⟨F0, H0, F', G1, s1, w', S', g1.mono sm⟩
theorem dss_one {st : Stmt} {f : SS} (h1 : DSt X dl W st f) : DSs X dl W [st] f := pss_one h1
variable {e : Expr} {f : SE}
def sExpr (f : SE) : SS := fun G => bnd (f G) fun _ => ret (.next G)
def sRet (f : SE) : SS := fun G => bnd (f G) fun d => ret (.ret d)
theorem ds_expr (he : DE X dl W e f) (hs : swapsWith e none pos.line X.env = pure false := by rfl) : DSt X dl W (.Expr e pos) (sExpr f) := by
  refine PS.of (ps_expr he hs) fun E sg H q => ?_
  obtain ⟨F0, H0, F, G, s, w, S, g⟩ := q
  exact ⟨F, F0, H0, G, s, w, S, (g.ex S.st).imp fun d s1 F1 H1 st1 w1 g1 v _ => g1 F1 H1 sg st1.fs w1 (S.step st1)⟩
theorem ds_ret (he : DE X dl W e f) : DSt X dl W (.Return (some e) pos) (sRet f) := by
  refine PS.of (ps_ret he) fun E sg H q => ?_
  obtain ⟨F0, H0, F, G, s, w, S, g⟩ := q
  exact ⟨F, F0, H0, G, s, w, S, (g.ex S.st).imp fun d s1 F1 H1 st1 w1 g1 v r => g1 F1 H1 v (S.st.trans st1) w1 r⟩
def sAsg (f : SE) (a : SG) : SS := fun G => bnd (f G) fun d => bnd (ofO (a G d)) fun G' => ret (.next G')
theorem ds_asg {tg : Expr} {is : List Nat} {a : SG} (he : DE X dl W e f) (hg : DG X dl tg is a) (hs : swapsWithSole [tg] e pos.line X.env = pure false := by rfl) (hw : swappedStores [tg] e X.env = pure none := by rfl)
    (h1 : (assignEach [tg] X.env).map (·.2) = [assign tg X.env] := by rfl) : DSt X dl W (.Assign [tg] e pos) (sAsg f a) := by
  refine PS.of (ps_asg he hg hs hw h1) fun E sg H q => ?_
  obtain ⟨F0, H0, F, G, s, w, S, g⟩ := q
  refine ⟨F, F0, H0, G, s, w, S, (g.ex S.st).imp fun d s1 F1 H1 st1 w1 g1 v r => ?_⟩
  obtain ⟨G', e1, g2⟩ := g1.ofO
  exact ⟨F0, H0, F1, G, s1, d, G', w1, S.step st1, r, e1, fun sg' _ S' => g2 F1 H1 sg' st1.fs w1 S'⟩
theorem set_rd {i : Nat} {sg : L2.St} {H : Hp} (q : tS X dl W (sAsg f (sgN i)) E sg H) : tD X dl W f sg H fun x H1 => gName i x sg H1 E.nx := by
  obtain ⟨F0, H0, F, G, s, w, S, g⟩ := q
  refine ⟨F, F0, H0, G, s, w, S, (g.ex S.st).imp fun d s1 F1 H1 st1 w1 g1 v r => ?_⟩
  exact g1 F1 H1 _ st1.fs w1 ((S.step st1).put r)
theorem ds_set (i : Nat) {x : Str} {pos' : Pos} (hN : X.N.Nodup) (he : DE X dl W e f) (hi : X.N[i]? = some x := by rfl) (hx : Loc X.env.scope x := by first | exact Or.inl rfl | exact Or.inr rfl) (hs : swapsWith e (some (.Name x pos')) pos.line X.env = pure false := by rfl) (hf : X.fn x = true \/ X.env.scope.names.lookup x = some .local := by first | exact .inl rfl | exact .inr rfl | assumption) :
    DSt X dl W (.Assign [.Name x pos'] e pos) (sAsg f (sgN i)) :=
  PS.of (ps_set hN hi hx he hs hf) fun E sg H q => set_rd q
def sIf (u : ST) (f g : SS) : SS := fun G => bnd (u G) fun k => if k then f G else g G
theorem ds_if {c : Expr} {a b : List Stmt} {u : ST} {f g : SS} (hc : DT X dl W c u) (ha : DSs X dl W a f) (hb : DSs X dl W b g) : DSt X dl W (.If c a b pos) (sIf u f g) := by
  refine PS.of (ps_if hc ha hb) fun E sg H q => ?_
  obtain ⟨F0, H0, F, G, s, w, S, g⟩ := q
  refine ⟨F, F0, H0, G, s, w, S, (g.ex S.st).imp fun k s1 F1 H1 st1 w1 g1 => ?_⟩
  cases k with
  | true => exact iteT ⟨F0, H0, F1, G, s1, w1, S.step st1, g1.mono st1.fs⟩
  | false => exact iteF ⟨F0, H0, F1, G, s1, w1, S.step st1, g1.mono st1.fs⟩
def frz (i : Nat) (G : Sls) : Sls := match G[i]? with
  | some (some (.own ds)) => G.set i (some (.fz (.lst ds)))
  | _ => G
theorem Sim.frz {sg : L2.St} {G : Sls} {s : DS} (i : Nat) (w : Wd dl F H s) (S : Sim X.K X.mg dl F0 H0 F H sg G) : ∃ F', Wd dl F' H s /\ Sim X.K X.mg dl F0 H0 F' H sg (EK.frz i G) /\ Same F F' := by
  cases e1 : G[i]? with
  | none => exact ⟨F, w, by simpa only [EK.frz, e1] using S, fun _ _ h => h⟩
  | some o =>
    cases o with
    | none => exact ⟨F, w, by simpa only [EK.frz, e1] using S, fun _ _ h => h⟩
    | some sl =>
      cases sl with
      | fz _ => exact ⟨F, w, by simpa only [EK.frz, e1] using S, fun _ _ h => h⟩
      | ini _ _ _ => exact ⟨F, w, by simpa only [EK.frz, e1] using S, fun _ _ h => h⟩
      | ownX _ _ => exact ⟨F, w, by simpa only [EK.frz, e1] using S, fun _ _ h => h⟩
      | ownP pp _ _ => exact ⟨F, w, by simpa only [EK.frz, e1] using S, fun _ _ h => h⟩
      | tree _ => exact ⟨F, w, by simpa only [EK.frz, e1] using S, fun _ _ h => h⟩
      | own ds =>
        obtain ⟨v, h1, a, vs, rfl, h3, h4, h5, h6, h7, h8⟩ := S.sl i _ e1
        have sm : Same F (upd F a (.lst vs)) := Same.updN h4
        refine ⟨upd F a (.lst vs), w.freeze h3 h4 h6, ?_, sm⟩
        simp only [EK.frz, e1]
        have other : ∀ (j : Nat) (t : Sl), i ≠ j -> G[j]? = some (some t) -> ∃ u, sg[j]? = some (some u) /\ SlOk X.K X.mg dl H0 (upd F a (.lst vs)) H t u := fun j t hij ej => by
          obtain ⟨u, k1, k2⟩ := S.sl j t ej
          refine ⟨u, k1, ?_⟩
          have nea : ∀ b, t.isOwn = true -> (u = .ref b -> b ≠ a) := fun b ho eu z => by
            subst z; subst eu
            exact hij (S.dis i j _ t e1 ej rfl ho (h1.trans k1.symm))
          cases t with
          | fz d => exact Rep.mono sm d u k2
          | own es =>
            obtain ⟨b, us, rfl, m2, m3, m4, m5, m6, m7⟩ := k2
            exact ⟨b, us, rfl, m2, by rw [upd_ne (nea b rfl rfl)]; exact m3, m4, m5, m6, RepL.mono sm _ _ m7⟩
          | ini c ns es =>
            obtain ⟨b, dx, C, us, rfl, m2, m3, m4, m5, m6, m7, m8, m9, m10, m11, m12, m13⟩ := k2
            refine ⟨b, dx, C, us, rfl, m2, m3, m4, by rw [upd_ne (nea b rfl rfl)]; exact m5, ?_, m7, m8, m9, m10, m11, m12, RepL.mono sm _ _ m13⟩
            rw [upd_ne (fun z => by rw [z, h3] at m4; cases m4)]; exact m6
          | ownX kk es =>
            obtain ⟨b, us, rfl, m2, m3, m4, m5, m6, m7, m8⟩ := k2
            exact ⟨b, us, rfl, m2, by rw [upd_ne (nea b rfl rfl)]; exact m3, m4, m5, m6, m7, RepL.mono sm _ _ m8⟩
          | ownP pp kk es =>
            obtain ⟨b, us, rfl, m2, m3, m4, m5, m6, m7, m8⟩ := k2
            exact ⟨b, us, rfl, m2, by rw [upd_ne (nea b rfl rfl)]; exact m3, m4, m5, m6, m7, RepL.mono sm _ _ m8⟩
          | tree _ => trivial
        have hil : i < G.length := by
          by_cases q : i < G.length
          · exact q
          · rw [List.getElem?_eq_none (by omega)] at e1; cases e1
        refine ⟨by rw [List.length_set]; exact S.len, fun j t ej => ?_, fun j k t u ej ek o1 o2 e3 => ?_, ⟨fun b o e => sm b o (S.st.fs b o e), S.st.hs, fun b o e => ?_, S.st.al⟩, S.tr.at e1 rfl (fun _ z => nomatch z) h1 sm (fun _ _ => rfl) (fun b hb => upd_ne hb)⟩
        · by_cases hij : i = j
          · subst hij
            rw [List.getElem?_set_self hil] at ej
            cases ej
            exact ⟨.ref a, h1, a, vs, rfl, upd_same, h7, RepL.mono sm _ _ h8⟩
          · rw [List.getElem?_set_ne hij] at ej
            exact other j t hij ej
        · have nz : ∀ m (t : Sl), (G.set i (some (.fz (.lst ds))))[m]? = some (some t) -> t.isOwn = true -> i ≠ m := fun m t e o z => by
            subst z
            rw [List.getElem?_set_self hil] at e; cases e; cases o
          have z1 := nz j t ej o1
          have z2 := nz k u ek o2
          rw [List.getElem?_set_ne z1] at ej
          rw [List.getElem?_set_ne z2] at ek
          exact S.dis j k t u ej ek o1 o2 e3
        · by_cases z : b = a
          · subst z; exact .inr h5
          · rw [upd_ne z] at e; exact S.st.nw b o e
def sFrz (i : Nat) (f : SS) : SS := fun G => f (frz i G)
theorem dss_frz (i : Nat) {st : List Stmt} {f : SS} (h : DSs X dl W st f) : DSs X dl W st (sFrz i f) := by
  refine PSs.of h fun E sg H q => ?_
  obtain ⟨F0, H0, F, G, s, w, S, g⟩ := q
  obtain ⟨F', w', S', sm⟩ := S.frz i w
  exact ⟨F0, H0, F', frz i G, s, w', S', g.mono sm⟩
def sOwn (i : Nat) (f : SA) : SS := fun G => bnd (f G) fun ds => ret (.next (G.set i (some (.own ds))))
theorem Sim.putOwn {sg : L2.St} {G : Sls} {i : Nat} {a : Addr} {ds : List D} {vs : List V} (S : Sim X.K X.mg dl F0 H0 F H sg G) (hn : ∀ (j : Nat) (t : Sl), i ≠ j -> G[j]? = some (some t) -> t.isOwn = true -> sg[j]? ≠ some (some (.ref a))) (hT : ∀ fp, TrOk X.K X.mg dl H0 F H sg G fp -> ∀ (j : Nat) (t : T), G[j]? = some (some (.tree t)) -> a ∉ fp j)
    (h3 : H a = some (.lst vs)) (h4 : F a = none) (h5 : H0 a = none) (h6 : ¬ dl.has a) (h7 : vs.length <= sizeLine) (h8 : RepL X.K X.mg dl F ds vs) : Sim X.K X.mg dl F0 H0 F H (sg.set i (some (.ref a))) (G.set i (some (.own ds))) := by
  have gi : ∀ {t : Sl}, (G.set i (some (.own ds)))[i]? = some (some t) -> i < G.length /\ t = .own ds := fun {t} e => by
    by_cases q : i < G.length
    · rw [List.getElem?_set_self q] at e; cases e; exact ⟨q, rfl⟩
    · rw [List.getElem?_set] at e; simp [q] at e
  refine ⟨by rw [List.length_set, List.length_set]; exact S.len, fun j t ej => ?_, fun j k t u ej ek o1 o2 e3 => ?_, S.st, S.tr.put (fun _ z => nomatch z) (fun _ b hb => by cases hb; exact hT)⟩
  · by_cases hij : i = j
    · subst hij
      obtain ⟨q, rfl⟩ := gi ej
      exact ⟨.ref a, List.getElem?_set_self (by rw [<- S.len]; exact q), a, vs, rfl, h3, h4, h5, h6, h7, h8⟩
    · rw [List.getElem?_set_ne hij] at ej
      rw [List.getElem?_set_ne hij]
      exact S.sl j t ej
  · by_cases hij : i = j
    · subst hij
      by_cases hik : i = k
      · exact hik
      · obtain ⟨q, _⟩ := gi ej
        rw [List.getElem?_set_ne hik] at ek e3
        rw [List.getElem?_set_self (by rw [<- S.len]; exact q)] at e3
        exact absurd e3.symm (hn k u hik ek o2)
    · rw [List.getElem?_set_ne hij] at ej e3
      by_cases hik : i = k
      · subst hik
        obtain ⟨q, _⟩ := gi ek
        rw [List.getElem?_set_self (by rw [<- S.len]; exact q)] at e3
        exact absurd e3 (hn j t hij ej o1)
      · rw [List.getElem?_set_ne hik] at ek e3
        exact S.dis j k t u ej ek o1 o2 e3
theorem Sim.putX {sg : L2.St} {G : Sls} {i : Nat} {a : Addr} {k : OK} {ds : List D} {vs : List V} (S : Sim X.K X.mg dl F0 H0 F H sg G) (hn : ∀ (j : Nat) (t : Sl), i ≠ j -> G[j]? = some (some t) -> t.isOwn = true -> sg[j]? ≠ some (some (.ref a))) (hT : ∀ fp, TrOk X.K X.mg dl H0 F H sg G fp -> ∀ (j : Nat) (t : T), G[j]? = some (some (.tree t)) -> a ∉ fp j)
    (h3 : H a = some (k.ho vs)) (h4 : F a = none) (h5 : H0 a = none) (h6 : ¬ dl.has a) (h7 : k.len = vs.length) (h9 : k.len <= 1000 /\ k.nd) (h8 : RepL X.K X.mg dl F ds vs) : Sim X.K X.mg dl F0 H0 F H (sg.set i (some (.ref a))) (G.set i (some (.ownX k ds))) := by
  have gi : ∀ {t : Sl}, (G.set i (some (.ownX k ds)))[i]? = some (some t) -> i < G.length /\ t = .ownX k ds := fun {t} e => by
    by_cases q : i < G.length
    · rw [List.getElem?_set_self q] at e; cases e; exact ⟨q, rfl⟩
    · rw [List.getElem?_set] at e; simp [q] at e
  refine ⟨by rw [List.length_set, List.length_set]; exact S.len, fun j t ej => ?_, fun j m t u ej ek o1 o2 e3 => ?_, S.st, S.tr.put (fun _ z => nomatch z) (fun _ b hb => by cases hb; exact hT)⟩
  · by_cases hij : i = j
    · subst hij
      obtain ⟨q, rfl⟩ := gi ej
      exact ⟨.ref a, List.getElem?_set_self (by rw [<- S.len]; exact q), a, vs, rfl, h3, h4, h5, h6, h7, h9, h8⟩
    · rw [List.getElem?_set_ne hij] at ej
      rw [List.getElem?_set_ne hij]
      exact S.sl j t ej
  · by_cases hij : i = j
    · subst hij
      by_cases hik : i = m
      · exact hik
      · obtain ⟨q, _⟩ := gi ej
        rw [List.getElem?_set_ne hik] at ek e3
        rw [List.getElem?_set_self (by rw [<- S.len]; exact q)] at e3
        exact absurd e3.symm (hn m u hik ek o2)
    · rw [List.getElem?_set_ne hij] at ej e3
      by_cases hik : i = m
      · subst hik
        obtain ⟨q, _⟩ := gi ek
        rw [List.getElem?_set_self (by rw [<- S.len]; exact q)] at e3
        exact absurd e3 (hn j t hij ej o1)
      · rw [List.getElem?_set_ne hik] at ek e3
        exact S.dis j m t u ej ek o1 o2 e3
theorem Sim.notAt {sg : L2.St} {G : Sls} {a : Addr} {F1 H1 : Hp} (S : Sim X.K X.mg dl F0 H0 F H sg G) (h : H a = none) : ∀ (j : Nat) (t : Sl), G[j]? = some (some t) -> t.isOwn = true -> sg[j]? ≠ some (some (.ref a)) := fun j t ej o z => by
  obtain ⟨u, k1, k2⟩ := S.sl j t ej
  rw [z] at k1
  cases k1
  cases t with
  | fz _ => cases o
  | own es =>
    obtain ⟨b, us, e, m2, _⟩ := k2
    cases e
    rw [h] at m2; cases m2
  | ini c ns es =>
    obtain ⟨b, dx, C, us, e, m2, m3, _⟩ := k2
    cases e
    rw [h] at m3; cases m3
  | ownX kk es =>
    obtain ⟨b, us, e, m2, _⟩ := k2
    cases e
    rw [h] at m2; cases m2
  | ownP pp kk es =>
    obtain ⟨b, us, e, m2, _⟩ := k2
    cases e
    rw [h] at m2; cases m2
  | tree _ => cases o
theorem Sim.notTr {sg : L2.St} {G : Sls} {a : Addr} {F1 H1 : Hp} (S : Sim X.K X.mg dl F0 H0 F H sg G) (st : Step dl F H F1 H1) (h : H a = none) : ∀ fp, TrOk X.K X.mg dl H0 F1 H1 sg G fp -> ∀ (j : Nat) (t : T), G[j]? = some (some (.tree t)) -> a ∉ fp j := fun fp T j t ej z => by
  obtain ⟨fp0, T0⟩ := S.tr
  obtain ⟨v, q1, q2, q3, q4⟩ := T0.at_ j t ej
  obtain ⟨u, r1, r2, r3, r4⟩ := T.at_ j t ej
  rw [q1] at r1
  cases r1
  have so := TR.some t v _ q2
  have q5 := TR.mono st.fs t v _ (fun b hb => by
    obtain ⟨o, ho⟩ := so b hb
    rw [ho]
    exact st.hs b o (q4 b hb).2.2 ho) q2
  rw [<- TR.det t v _ _ q5 r2] at z
  obtain ⟨o, ho⟩ := so a z
  rw [h] at ho
  cases ho
theorem own_rd {i : Nat} {fa : SA} {sg : L2.St} {H : Hp} (q : tS X dl W (sOwn i fa) E sg H) : tDO X dl W fa sg H fun x H1 => gName i x sg H1 E.nx := by
  obtain ⟨F0, H0, F, G, s, w, S, g⟩ := q
  refine ⟨F, F0, H0, G, s, w, S, (g.ex S.st).imp fun ds s1 F1 H1 st1 w1 g1 a na => ?_⟩
  obtain ⟨n1, n2, vs, h1, h2, h3⟩ := na
  refine g1 F1 H1 _ st1.fs w1 ((S.step st1).putOwn (fun j t _ ej o => S.notAt (F1 := F1) (H1 := H1) n1 j t ej o) (S.notTr st1 n1) h1 n2 (S.st.al a n1) (w.na n1) h2 h3)
theorem ds_own (i : Nat) {x : Str} {pos' : Pos} {fa : SA} (hN : X.N.Nodup) (he : DEO X dl W e fa) (hi : X.N[i]? = some x := by rfl) (hx : Loc X.env.scope x := by first | exact Or.inl rfl | exact Or.inr rfl) (hs : swapsWith e (some (.Name x pos')) pos.line X.env = pure false := by rfl) (hf : X.fn x = true \/ X.env.scope.names.lookup x = some .local := by first | exact .inl rfl | exact .inr rfl | assumption) :
    DSt X dl W (.Assign [.Name x pos'] e pos) (sOwn i fa) :=
  PS.of (ps_set hN hi hx he hs hf) fun E sg H q => own_rd q
def sApp (i : Nat) (f : SE) : SS := fun G => match G[i]? with
  | some (some (.own ds)) => bnd (f G) fun d => if ds.length < sizeLine then ret (.next (G.set i (some (.own (ds ++ [d]))))) else fail
  | _ => fail
end
end
section
section
variable {X : Cx} {dl : Dr X.w X.K X.mg} {W : WX} {pos : Pos} {F0 H0 F H : Hp} {E : Ends} {e : Expr} {f : SE}
theorem Wd.setO {s : DS} {a : Addr} {o : HO} (w : Wd dl F H s) (n : F a = none) (nd : ¬ dl.has a) (ho : NotTbl o := by intro _ z; cases z) (hc : NotCode o := by intro _ _ z; unfold LamX.CodeO at z; cases z) : Wd dl F (upd H a o) s := by
  refine ⟨fun b u e => ?_, w.off, ?_, w.tb.upd (fun _ _ e => e) (fun q hq z => nd (.inr (.inr (.inr (.inl ⟨q.2, by rw [<- z]; exact hq⟩))))) ho (.inl hc), w.ob.set (fun _ _ e => e) fun ac q hq m => nd (.inr (.inr (.inr (.inr ⟨ac, q, m, hq⟩))))⟩
  · rw [upd_ne (ne_of_none e n)]; exact w.sub b u e
  · obtain ⟨d1, d2, d3, d4⟩ := w.dr
    exact ⟨by rw [upd_ne (fun z => nd (by rw [<- z]; exact .inl rfl))]; exact d1, by rw [upd_ne (fun z => nd (by rw [<- z]; exact .inr (.inl rfl)))]; exact d2, by rw [upd_ne (fun z => nd (by rw [<- z]; exact .inr (.inr (.inl rfl))))]; exact d3, d4⟩
theorem get_lt {α : Type} {l : List α} {i : Nat} {x : α} (h : l[i]? = some x) : i < l.length := (List.getElem?_eq_some_iff.mp h).1
theorem Sim.setOwn {sg : L2.St} {G : Sls} {i : Nat} {a : Addr} {ds ds' : List D} {vs' : List V} (S : Sim X.K X.mg dl F0 H0 F H sg G) (ei : G[i]? = some (some (.own ds))) (es : sg[i]? = some (some (.ref a)))
    (h7 : vs'.length <= sizeLine) (h8 : RepL X.K X.mg dl F ds' vs') : Sim X.K X.mg dl F0 H0 F (upd H a (.lst vs')) sg (G.set i (some (.own ds'))) := by
  have hil := get_lt ei
  obtain ⟨v, k1, b, us, rfl, m2, m3, m4, m5, m6, m7⟩ := S.sl i _ ei
  rw [es] at k1
  cases k1
  refine ⟨by rw [List.length_set]; exact S.len, fun j t ej => ?_, fun j k t u ej ek o1 o2 e3 => ?_, ⟨S.st.fs, fun c o nc e => ?_, S.st.nw, fun c e => ?_⟩, S.tr.at ei rfl (fun _ z => nomatch z) es (fun _ _ z => z) (fun b hb => upd_ne hb) (fun _ _ => rfl)⟩
  · by_cases hij : i = j
    · subst hij
      rw [List.getElem?_set_self hil] at ej
      cases ej
      exact ⟨.ref a, es, a, vs', rfl, upd_same, m3, m4, m5, h7, h8⟩
    · rw [List.getElem?_set_ne hij] at ej
      obtain ⟨u, k1, k2⟩ := S.sl j t ej
      refine ⟨u, k1, ?_⟩
      have nea : ∀ c, t.isOwn = true -> u = .ref c -> c ≠ a := fun c ho eu z => by
        subst z; subst eu
        exact hij (S.dis i j _ t ei ej rfl ho (es.trans k1.symm))
      cases t with
      | fz d => exact k2
      | own es' =>
        obtain ⟨c, ws, rfl, q2, q3, q4, q5, q6, q7⟩ := k2
        exact ⟨c, ws, rfl, by rw [upd_ne (nea c rfl rfl)]; exact q2, q3, q4, q5, q6, q7⟩
      | ini cc ns es' =>
        obtain ⟨c, dx, C, ws, rfl, q2, q3, q4, q5, q6, q7, q8, q9, q10, q11, q12, q13⟩ := k2
        exact ⟨c, dx, C, ws, rfl, q2, by rw [upd_ne (nea c rfl rfl)]; exact q3, by rw [upd_ne (fun z => by rw [z, m2] at q4; cases q4)]; exact q4, q5, q6, q7, q8, q9, q10, q11, q12, q13⟩
      | ownX kk es' =>
        obtain ⟨c, ws, rfl, q2, q3, q4, q5, q6, q7, q8⟩ := k2
        exact ⟨c, ws, rfl, by rw [upd_ne (nea c rfl rfl)]; exact q2, q3, q4, q5, q6, q7, q8⟩
      | ownP pp kk es' =>
        obtain ⟨c, ws, rfl, q2, q3, q4, q5, q6, q7, q8⟩ := k2
        exact ⟨c, ws, rfl, by rw [upd_ne (nea c rfl rfl)]; exact q2, q3, q4, q5, q6, q7, q8⟩
      | tree _ => trivial
  · have nz : ∀ m (t : Sl), (G.set i (some (.own ds')))[m]? = some (some t) -> t.isOwn = true -> ∃ t' : Sl, G[m]? = some (some t') /\ t'.isOwn = true := fun m t e o => by
      by_cases z : i = m
      · subst z
        exact ⟨_, ei, rfl⟩
      · rw [List.getElem?_set_ne z] at e
        exact ⟨t, e, o⟩
    obtain ⟨t', a1, a2⟩ := nz j t ej o1
    obtain ⟨u', b1, b2⟩ := nz k u ek o2
    exact S.dis j k t' u' a1 b1 a2 b2 e3
  · rw [upd_ne (ne_of_none e m4)]; exact S.st.hs c o nc e
  · by_cases z : c = a
    · subst z; exact m4
    · rw [upd_ne z] at e; exact S.st.al c e
theorem ds_append (i : Nat) {x : Str} {p ap cp : Pos} (he : DE X dl W e f) (hN : X.N[i]? = some x := by rfl) (hv : Vis X.env.scope x := by first | exact Or.inl rfl | exact Or.inr (Or.inl rfl) | exact Or.inr (Or.inr rfl))
    (hd : (x == ("__debug__" : Str)) = false := by decide) (hcd : (x == ("__classdict__" : Str)) = false := by decide)
    (hbase : attributeBase (.Name x p) "append" X.env (eval (.Name x p) X.env) = eval (.Name x p) X.env := by rfl)
    (hfew : ((backTo cp (starEach [e] X.env)).all (fun x => !x.1) && (backToKw cp (keywordEach [] X.env)).all (fun x => x.1.isSome)
      && decide (([e] : List Expr).length + ([] : List Keyword).length + (if ([] : List Keyword).isEmpty then 0 else 1) < 30)) = true := by rfl)
    (hline : (ap.endLine == cp.line) = true := by rfl) (hse : starEach [e] X.env = (false, eval e X.env) :: starEach [] X.env := by rfl)
    (hs : swapsWith (.Call (.Attribute (.Name x p) "append" ap) [e] [] cp) none pos.line X.env = pure false := by rfl) :
    DSt X dl W (.Expr (.Call (.Attribute (.Name x p) "append" ap) [e] [] cp) pos) (sApp i f) := by
  have ha : DA X dl W [e] (saC f sa0) := da_cons he da_nil hse
  refine PS.of (ps_expr (pe_bm PySem.F.plainAttrs_list PySem.F.slot_list_append PySem.F.type_list_append mt_append (pe_var hN hv hd hcd) (pa_cons he pa_nil hse) hbase hfew hline hse rfl) hs) fun E sg H q => ?_
  obtain ⟨F0, H0, F, G, s, w, S, g⟩ := q
  cases ei : G[i]? with
  | none => simp only [sApp, ei] at g; exact g.elim
  | some o =>
    cases o with
    | none => simp only [sApp, ei] at g; exact g.elim
    | some sl =>
      cases sl with
      | fz _ => simp only [sApp, ei] at g; exact g.elim
      | ini _ _ _ => simp only [sApp, ei] at g; exact g.elim
      | ownX _ _ => simp only [sApp, ei] at g; exact g.elim
      | ownP pp _ _ => simp only [sApp, ei] at g; exact g.elim
      | tree _ => simp only [sApp, ei] at g; exact g.elim
      | own ds =>
        simp only [sApp, ei] at g
        obtain ⟨v, k1, a, vs, rfl, m2, m3, m4, m5, m6, m7⟩ := S.sl i _ ei
        refine ⟨.ref a, k1, .inl ⟨rfl, _, SqL.of m2⟩, F, F0, H0, G, s, w, S, (g.ex (sg := sg) S.st).imp fun d s1 F1 H1 st1 w1 g1 v rv => ?_⟩
        have S1 := S.step st1
        obtain ⟨v', k1', b, us, eb, n2, n3, n4, n5, n6, n7⟩ := S1.sl i _ ei
        rw [k1] at k1'
        cases k1'
        cases eb
        by_cases hl : ds.length < sizeLine
        · rw [if_pos hl] at g1
          rw [n7.length] at hl
          refine ⟨a, us, v, rfl, rfl, n2, hl, ?_⟩
          exact g1 F1 _ sg st1.fs (w1.setO n3 n5) (S1.setOwn ei k1 (by simp; omega) (n7.append ⟨v, [], rfl, rv, rfl⟩))
        · rw [if_neg hl] at g1
          exact g1.elim
def forM (a : SG) (b : SS) : List D -> Sls -> M Out
  | [], G => ret (.next G)
  | d :: ds, G => bnd (ofO (a G d)) fun G' => bnd (b G') fun o => match o with
    | .next G2 => forM a b ds G2
    | .cont G2 => forM a b ds G2
    | .brk G2 => ret (.next G2)
    | .ret d => ret (.ret d)
def sFor (it : SA) (a : SG) (b : SS) : SS := fun G => bnd (it G) fun ds => forM a b ds G
theorem ds_for {tg iter : Expr} {body : List Stmt} {it : SA} {is : List Nat} {a : SG} {b : SS} (hp : PassesOwn (model X.prog X.w) X.A X.env X.xe) (hc : X.calm = true) (hi : DIs X dl W tg iter it) (hg : DG X dl tg is a) (hb : DSs X dl W body b)
    (h1 : ∀ x, foldedSetIterable iter X.env x = pure x := by intro _; rfl) : DSt X dl W (.For tg iter body [] pos) (sFor it a b) := by
  refine PS.of (ps_for hp hc hi hg hb h1) fun E sg H q => ?_
  obtain ⟨F0, H0, F, G, s, w, S, g⟩ := q
  refine ⟨F, F0, H0, G, s, w, S, (g.ex (sg := sg) S.st).imp fun ds s1 F1 H1 st1 w1 g1 J hz wk => ?_⟩
  refine for_it wk (fun i sg' H' => ∃ (F' : Hp) (G' : Sls) (s' : DS), Wd dl F' H' s' /\ Sim X.K X.mg dl F0 H0 F' H' sg' G' /\ Same F1 F' /\ GoS X dl W F0 H0 F' (forM a b (ds.drop i) G' s') E) ?_ ?_ ?_ ?_
  · exact ⟨F1, G, s1, w1, S.step st1, fun _ _ h => h, by simpa using g1.mono st1.fs⟩
  · rintro i sg' H' _ ⟨F', G', s', w', S', sm, _⟩ c o e
    exact w'.sub c o (sm c o e)
  · rintro i x sg' H' H2 hlt ⟨F', G', s', w', S', sm, go⟩ y
    obtain ⟨F2, d, st2, w2, e2, r2⟩ := y F' s' sm w'
    have ed : ds.drop i = d :: ds.drop (i + 1) := by
      rw [List.drop_eq_getElem_cons hlt]
      have : ds[i] = d := by
        rw [List.getElem?_eq_getElem hlt] at e2
        exact Option.some.inj e2
      rw [this]
    rw [ed] at go
    obtain ⟨G2, eG, go2⟩ := GoS.ofO go
    refine ⟨F0, H0, F2, G', s', d, G2, w2, S'.step st2, r2, eG, fun sg2 _ S2 => ?_⟩
    have smF : Same F1 F2 := fun c o h => st2.fs c o (sm c o h)
    refine ⟨F0, H0, F2, G2, s', w2, S2, ?_⟩
    refine (go2.mono st2.fs).st (fun G3 s3 g3 F3 H3 sg3 sm3 w3 S3 => ?_) (fun G3 s3 g3 => g3) (fun G3 s3 g3 F3 H3 sg3 sm3 w3 S3 => ?_) (fun d3 s3 g3 => g3)
    · exact ⟨F3, G3, s3, w3, S3, fun c o h => sm3 c o (smF c o h), g3.mono sm3⟩
    · exact ⟨F3, G3, s3, w3, S3, fun c o h => sm3 c o (smF c o h), g3.mono sm3⟩
  · rintro sg' H' ⟨F', G', s', w', S', sm, go⟩
    rw [List.drop_length] at go
    exact go F' H' sg' (fun _ _ h => h) w' S'
end
section
variable (K : PySem.W.Frag) (mg : Str -> Option Value)
def spD (w : World) (n : Nat) (m : List D -> M D) : Sp := fun vs H Q E => vs.length = n /\ ∃ (dl : Dr w K mg) (F : Hp) (ds : List D) (s : DS), Wd dl F H s /\ RepL K mg dl F ds vs /\ Go mg K dl E F H (m ds s) fun d _ F' H' => ∀ v, Rep K mg dl F' d v -> Q v H'
end
def startG (n : Nat) (ds : List D) : Sls := ds.map (fun d => some (.fz d)) ++ List.replicate (n - ds.length) none
def runB (n : Nat) (b : SS) (ds : List D) : M D := bnd (b (startG n ds)) fun o => match o with
  | .next _ => ret .non
  | .ret d => ret d
  | _ => fail
theorem sim_start {K : PySem.W.Frag} {mg : Str -> Option Value} {wd : World} {dl : Dr wd K mg} {F H : Hp} {N : List Str} {ds : List D} {vs : List V} (r : RepL K mg dl F ds vs) : Sim K mg dl F H F H (start N vs) (startG N.length ds) := by
  have hl := r.length
  have key : ∀ (i : Nat) (s : Sl), (startG N.length ds)[i]? = some (some s) -> ∃ d, s = .fz d /\ ds[i]? = some d := fun i s h => by
    unfold startG at h
    by_cases q : i < ds.length
    · rw [List.getElem?_append_left (by simpa using q), List.getElem?_map] at h
      cases e : ds[i]? with
      | none => rw [e] at h; cases h
      | some d => rw [e] at h; cases h; exact ⟨d, rfl, rfl⟩
    · rw [List.getElem?_append_right (by simpa using q), List.getElem?_replicate] at h
      split at h <;> cases h
  refine ⟨?_, fun i s h => ?_, fun i j s t e1 e2 o1 o2 _ => ?_, Step.refl, Trs.no fun i t e => by
    obtain ⟨d, z, _⟩ := key i _ e
    cases z⟩
  · unfold L2.start startG
    simp only [List.length_append, List.length_map, List.length_replicate]
    rw [hl]
  · obtain ⟨d, rfl, hd⟩ := key i s h
    obtain ⟨v, h1, h2⟩ := r.get hd
    refine ⟨v, ?_, h2⟩
    unfold L2.start
    rw [List.getElem?_append_left (by simpa using get_lt h1), List.getElem?_map, h1]
    rfl
  · obtain ⟨d, rfl, _⟩ := key i s e1
    cases o1
structure DFn (P : Program) (w : World) (K : PySem.W.Frag) (mg : Str -> Option Value) (base : Heap) (x : Str) (k n : Nat) (m : List D -> M D) : Prop where
  ex : ∃ (f : Addr) (fd : FuncData) (ps : List Str), mg x = some (.ref f) /\ PySem.W.keepIn K (.ref f) = true /\ ps.length = n /\ Binds K fd ps [] /\ FnOk P w K mg base (L2.CX P w) k f fd ps (spD K mg w n m)
theorem dfn_of {P : Program} {w : World} {K : PySem.W.Frag} {mg : Str -> Option Value} {base : Heap} {x qual : Str} {st : Stmt} {f : Addr} {fd : FuncData} {N ps : List Str} {k n : Nat} {b : SS} {dvs : List V} {kws : List (Str × V)} (F : FunD K x qual (defArgs st) (defBody st) (defScope st) dvs kws f fd) (S : FnScope N ps (defScope st)) (hn : ps.length = n)
    (hb : ∀ (cdv : Value) (A : Around) (outer : List Env) (s : Shared) (H : Hp) (E : XK) (dl : Dr w K mg), Room k (cxOf (L2.CX P w) P w K mg base N qual (defScope st) f cdv A outer s H E).A ->
      Takes (cxOf (L2.CX P w) P w K mg base N qual (defScope st) f cdv A outer s H E) (fun cls d _ H => E cls d H) ->
      PassesOwn (model P w) (cxOf (L2.CX P w) P w K mg base N qual (defScope st) f cdv A outer s H E).A (cxOf (L2.CX P w) P w K mg base N qual (defScope st) f cdv A outer s H E).env (cxOf (L2.CX P w) P w K mg base N qual (defScope st) f cdv A outer s H E).xe ->
      DSs (cxOf (L2.CX P w) P w K mg base N qual (defScope st) f cdv A outer s H E) dl (fun cls d _ H => E cls d H) (defBody st) b) :
    FnOk P w K mg base (L2.CX P w) (k + 1) f fd ps (spD K mg w n (runB N.length b)) := by
  refine F.ok S (fun vs H Q E h => h.1.trans hn.symm) fun cdv A outer s H vs Q E hr h => ?_
  obtain ⟨hlen, dl, Fz, ds, s0, wd, rp, go⟩ := h
  refine ⟨_, hb cdv A outer s H E dl hr (takes_of rfl rfl rfl rfl) (passes_of rfl), ?_⟩
  refine ⟨Fz, H, Fz, startG N.length ds, s0, wd, sim_start rp, ?_⟩
  unfold runB bnd at go
  cases e : b (startG N.length ds) s0 with
  | none => rw [e] at go; exact go
  | some p =>
    obtain ⟨r, s1⟩ := p
    rw [e] at go
    cases r with
    | err x => exact fun F' H' sg' cls d st w xr => go F' H' cls d st w xr
    | ok o =>
      cases o with
      | next G => exact fun F' H' sg' sm w S => go F' H' S.st w .non rfl
      | brk G => exact go.elim
      | cont G => exact go.elim
      | ret d => exact fun F' H' v st w r => go F' H' st w v r
section
variable {X : Cx} {dl : Dr X.w X.K X.mg} {W : WX} {pos p : Pos} {x : Str} {e : Expr} {es : List Expr} {ra : SA} {k n : Nat} {m : List D -> M D}
def gCall (n : Nat) (m : List D -> M D) (ra : SA) : SE := fun G => bnd (ra G) fun ds => if ds.length = n then m ds else fail
theorem de_call (h : DFn X.prog X.w X.K X.mg X.base x k n m) (hr : Room k X.A) (tk : Takes X W) (ha : DA X dl W (e :: es) ra) (hg : Gl X x := by rfl)
    (hdb : (x == ("__debug__" : Str)) = false := by decide) (he : starEach (e :: es) X.env = (false, eval e X.env) :: starEach es X.env := by rfl) (hpl : (backTo pos (starEach es X.env)).any (·.1) = false := by rfl) :
    DE X dl W (.Call (.Name x p) (e :: es) [] pos) (gCall n m ra) := by
  obtain ⟨f, fd, ps, h1, h2, h3, h4, h5⟩ := h.ex
  refine PE.of (pe_callS h5 hr hg h1 h2 h4 (fun sg => passAt tk sg) ha hdb he hpl) fun sg H Q q => ?_
  obtain ⟨F, F0, H0, G, s, w, S, g⟩ := q
  refine ⟨F, F0, H0, G, s, w, S, g.bnd.imp fun ds s1 F1 H1 st1 w1 g1 vs rvs => ?_⟩
  by_cases hl : ds.length = n
  · rw [if_pos hl] at g1
    exact ⟨rvs.length.symm.trans hl, dl, F1, ds, s1, w1, rvs, g1⟩
  · rw [if_neg hl] at g1
    exact g1.elim
end
end
end EK
namespace L2
open PySem PySem.Spec PyProof.Rows
section
theorem tuple_mulW1 (l : Addr) (items : Array Value) (n : Nat) (dd : Option Addr) (sl : Array (Option Value)) (x : Int) (u : Tok) (c0 : (decide (x < -(2 ^ 63)) || decide (x >= 2 ^ 63)) = false) (c1 : (items.isEmpty || x == 1) = true) :
    Meets (Builtin.«tuple.__mul__» ⟨[.ref l, .int x u], []⟩) (fun _ R s => s.heap.get? l = some { cls := .type "tuple", dict := dd, data := .seq items n, slots := sl } /\
      R (.ok (.ret (Value.ref l))) { s with heap := s.heap, toks := s.toks }) :=
  .of_wp fun prog w A R s h => by
    obtain ⟨hp, g, d, tk, os⟩ := s
    obtain ⟨hl, h⟩ := h
    have f1 := AutoSeq1.idx_int
    wp_walk using wpAny_loadPart' hl
    repeat (first
      | (refine wpAny_ite_false (decide_eq_false (by rw [c0]; exact Bool.false_ne_true)) ?_; wp_walk using wpAny_loadPart' hl)
      | (refine wpAny_ite_true (decide_eq_true c1) ?_; wp_walk using wpAny_loadPart' hl))
    exact ⟨_, rfl, h⟩
def rRep1 (K : PySem.W.Frag) : R2 := fun x y H Q => ∃ l xs, x = .ref l /\ y = .int 1 /\ SqT K H l xs /\ Q (.ref l) H
section
variable {X : Cx}
theorem op_rep1 : OpR X (binaryOp .Mult) (rRep1 X.K) := by
  intro pins s σ H x y v u Q I rx ry h
  obtain ⟨l, xs, rfl, rfl, hT, q⟩ := h
  cases rx
  obtain ⟨t, rfl⟩ := ry
  obtain ⟨its, r, ⟨⟨cls, dd, data, sl⟩, ho, hc, n, hd⟩, hs⟩ := I.tuple hT
  simp only at hc hd
  subst hc hd
  refine wpAny_binaryOp_repeat_ref (T := "tuple") (U := "int") (by decide) ⟨_, ho, rfl⟩ (fun s' => typeIs_int s' 1 t) noFill_tuple_mul F.fills_int_mul F.slot_int_rmul repeat_tuple F.slot_int_index.lookup
    (call_meets F.slot_int_rmul (typeIs_int s 1 t) F.entry_int_rmul (F.args_int_rmul_2 _ _) (int_rmul_tuple 1 t l its.toArray n dd sl)
      ⟨ho, rfl, ⟨_, ho, rfl⟩, call_meets F.slot_tuple_mul ⟨_, ho, rfl⟩ F.entry_tuple_mul (F.args_tuple_mul_2 _ _) (tuple_mulW1 l its.toArray n dd sl 1 t (by decide) (by simp)) ⟨ho, ?_⟩⟩)
  exact ⟨.ref l, _, I, rfl, q⟩
end
end
end L2
namespace EK
open PySem PySem.Spec PyProof.Rows L2
section
section
variable {X : Cx} {dl : Dr X.w X.K X.mg} {W : WX}
theorem rd_of {r : R2} {g : D -> D -> Option D} {f : Value -> Value -> Sem Value} (h : OpR X f r)
    (w : ∀ x y H Q F s a b d, Wd dl F H s -> Rep X.K X.mg dl F a x -> Rep X.K X.mg dl F b y -> g a b = some d -> (∀ F' H' v, Step dl F H F' H' -> Wd dl F' H' s -> Rep X.K X.mg dl F' d v -> Q v H') -> r x y H Q) : OpR X f (rD X dl g) := by
  intro pins s sg H x y v u Q I rx ry q
  obtain ⟨F, st, a, b, d, wd, ra, rb, e, k⟩ := q
  exact h pins s sg H x y v u Q I rx ry (w x y H Q F st a b d wd ra rb e k)
theorem opR_or {r r' : R2} {f : Value -> Value -> Sem Value} (h : OpR X f r) (h' : OpR X f r') : OpR X f (fun x y H Q => r x y H Q \/ r' x y H Q) := by
  intro pins s sg H x y v u Q I rx ry q
  rcases q with q | q
  · exact h pins s sg H x y v u Q I rx ry q
  · exact h' pins s sg H x y v u Q I rx ry q
def iop (g : Int -> Int -> D) : D -> D -> Option D
  | .int i, .int j => some (g i j)
  | _, _ => none
theorem iop_some {g : Int -> Int -> D} {a b d : D} (h : iop g a b = some d) : ∃ i j, a = .int i /\ b = .int j /\ d = g i j := by
  unfold iop at h
  split at h
  · cases h; exact ⟨_, _, rfl, rfl, rfl⟩
  · cases h
theorem op_iop {f : Value -> Value -> Sem Value} {g : Int -> Int -> V} {g' : Int -> Int -> D} (h : OpR X f (rI0 g)) (hg : ∀ i j F, Rep X.K X.mg dl F (g' i j) (g i j)) : OpR X f (rD X dl (iop g')) := by
  refine rd_of h fun x y H Q F s a b d w ra rb e k => ?_
  obtain ⟨i, j, rfl, rfl, rfl⟩ := iop_some e
  exact ⟨i, j, ra, rb, k F H _ Step.refl w (hg i j F)⟩
def iopC (c : Int -> Int -> Bool) (g : Int -> Int -> D) : D -> D -> Option D
  | .int i, .int j => if c i j then some (g i j) else none
  | _, _ => none
theorem iopC_some {c : Int -> Int -> Bool} {g : Int -> Int -> D} {a b d : D} (h : iopC c g a b = some d) : ∃ i j, a = .int i /\ b = .int j /\ c i j = true /\ d = g i j := by
  unfold iopC at h
  split at h
  · split at h
    · rename_i hc
      cases h; exact ⟨_, _, rfl, rfl, hc, rfl⟩
    · cases h
  · cases h
theorem op_iopC {f : Value -> Value -> Sem Value} {C : Int -> Int -> Prop} {c : Int -> Int -> Bool} {g : Int -> Int -> V} {g' : Int -> Int -> D} (h : OpR X f (rI C g)) (hc : ∀ i j, c i j = true -> C i j) (hg : ∀ i j F, Rep X.K X.mg dl F (g' i j) (g i j)) : OpR X f (rD X dl (iopC c g')) := by
  refine rd_of h fun x y H Q F s a b d w ra rb e k => ?_
  obtain ⟨i, j, rfl, rfl, hcc, rfl⟩ := iopC_some e
  exact ⟨i, j, ra, rb, hc i j hcc, k F H _ Step.refl w (hg i j F)⟩
def subD := iop fun i j => .int (i - j)
theorem od_sub : OpR X (binaryOp .Sub) (rD X dl subD) := op_iop op_sub fun _ _ _ => rfl
def mulI : D -> D -> Option D := iopC (fun i j => decide ((-(2 ^ 64) < i /\ i < 2 ^ 64) \/ (-(2 ^ 64) < j /\ j < 2 ^ 64))) fun i j => .int (i * j)
def fdivD : D -> D -> Option D := iopC (fun i j => decide (0 < j /\ j < 1073741824)) fun i j => .int (i / j)
def modD : D -> D -> Option D := iopC (fun i j => decide (0 < j)) fun i j => .int (i % j)
theorem od_mod : OpR X (binaryOp .Mod) (rD X dl modD) := op_iopC op_mod (fun _ _ h => of_decide_eq_true h) fun _ _ _ => rfl
theorem od_fdiv : OpR X (binaryOp .FloorDiv) (rD X dl fdivD) := op_iopC op_fdiv (fun i j h => (of_decide_eq_true h : 0 < j /\ j < 1073741824)) fun _ _ _ => rfl
def ltI := iop fun i j => .bl (decide (i < j))
def leI := iop fun i j => .bl (decide (i <= j))
def gtI := iop fun i j => .bl (decide (j < i))
def geI := iop fun i j => .bl (decide (j <= i))
theorem od_ltI : OpR X (compareOp .Lt) (rD X dl ltI) := op_iop op_lt fun _ _ _ => rfl
theorem od_le : OpR X (compareOp .LtE) (rD X dl leI) := op_iop op_le fun _ _ _ => rfl
theorem od_gt : OpR X (compareOp .Gt) (rD X dl gtI) := op_iop op_gt fun _ _ _ => rfl
def addD : D -> D -> Option D
  | .int i, .int j => some (.int (i + j))
  | .str x, .str y => if x.length + y.length <= sizeLine then some (.str (x ++ y)) else none
  | .lst xs, .lst ys => if xs.length + ys.length <= sizeLine then some (.lst (xs ++ ys)) else none
  | .tup xs, .tup ys => if xs.length + ys.length <= sizeLine then some (.tup (xs ++ ys)) else none
  | _, _ => none
theorem od_add : OpR X (binaryOp .Add) (rD X dl addD) := by
  refine rd_of (opR_or (opR_or op_add op_add_str) (opR_or op_cat op_catA)) fun x y H Q F s a b d w ra rb e k => ?_
  unfold addD at e
  split at e
  · cases e; exact .inl (.inl ⟨_, _, ra, rb, k F H _ Step.refl w rfl⟩)
  · split at e
    · rename_i hl
      cases e; exact .inl (.inr ⟨_, _, ra, rb, hl, k F H _ Step.refl w rfl⟩)
    · cases e
  · split at e
    · rename_i hl
      cases e
      obtain ⟨a1, vs, rfl, h2, h3, h4⟩ := ra
      obtain ⟨a2, us, rfl, h5, h6, h7⟩ := rb
      rw [h4.length, h7.length] at hl
      exact .inr (.inl ⟨a1, a2, vs, us, rfl, rfl, w.sub _ _ h2, w.sub _ _ h5, hl, fun p hp => k _ _ _ (Step.new w hp) (w.new hp) ⟨p, vs ++ us, rfl, upd_same, by rw [List.length_append]; exact hl, RepL.mono (Step.new w hp).fs _ _ (h4.append h7)⟩⟩)
    · cases e
  · rename_i xs ys
    split at e
    · rename_i hl
      cases e
      have ra0 := ra
      have rb0 := rb
      obtain ⟨a1, vs, rfl, h2, h3, h4⟩ := ra
      obtain ⟨a2, us, rfl, h5, h6, h7⟩ := rb
      rw [h4.length, h7.length] at hl
      refine .inr (.inr ⟨a1, a2, vs, us, rfl, rfl, Same.seqT w.sub h2, Same.seqT w.sub h5, hl, fun z => ?_, fun _ z => ?_, fun _ _ p hp => ?_⟩)
      · subst z
        have : xs = [] := List.eq_nil_of_length_eq_zero h4.length
        subst this
        exact k F H _ Step.refl w rb0
      · subst z
        have : ys = [] := List.eq_nil_of_length_eq_zero h7.length
        subst this
        exact k F H _ Step.refl w (by simpa using ra0)
      · exact k _ _ _ (Step.new w hp) (w.new hp) ⟨p, vs ++ us, rfl, SqT.of upd_same, by rw [List.length_append]; exact hl, RepL.mono (Step.new w hp).fs _ _ (h4.append h7)⟩
    · cases e
  · cases e
def mulD : D -> D -> Option D
  | .tup xs, .int k => if xs ≠ [] /\ 1 <= k /\ k <= 1000 /\ xs.length <= 1000 then some (.tup (List.replicate k.toNat xs).flatten) else none
  | .lst xs, .int k => if -1000000 <= k /\ k <= 1000000 /\ xs.length * k.toNat <= sizeLine then some (.lst (List.replicate k.toNat xs).flatten) else none
  | a, b => mulI a b
theorem RepL.flat {F : Hp} {ds : List D} {vs : List V} (h : RepL X.K X.mg dl F ds vs) : ∀ n : Nat, RepL X.K X.mg dl F (List.replicate n ds).flatten (List.replicate n vs).flatten
  | 0 => rfl
  | n + 1 => by
    rw [List.replicate_succ, List.replicate_succ, List.flatten_cons, List.flatten_cons]
    exact h.append (RepL.flat h n)
theorem flat_len {α : Type} (xs : List α) : ∀ n : Nat, (List.replicate n xs).flatten.length = xs.length * n
  | 0 => by simp
  | n + 1 => by
    rw [List.replicate_succ, List.flatten_cons, List.length_append, flat_len xs n, Nat.mul_succ]
    omega
theorem od_mul : OpR X (binaryOp .Mult) (rD X dl mulD) := by
  refine rd_of (opR_or (opR_or op_rep op_mul) (opR_or op_repT op_rep1)) fun x y H Q F s a b d w ra rb e k => ?_
  unfold mulD at e
  split at e
  · rename_i xs n
    split at e
    · rename_i hl
      cases e
      have ra0 := ra
      obtain ⟨a1, vs, rfl, h2, h3, h4⟩ := ra
      obtain ⟨l0, l1, l2, l3⟩ := hl
      rw [h4.length] at l3
      have hne : vs ≠ [] := fun z => by
        subst z
        exact l0 (List.eq_nil_of_length_eq_zero (h4.length))
      by_cases z : n = 1
      · subst z
        refine .inr (.inr ⟨a1, vs, rfl, rb, Same.seqT w.sub h2, k F H _ Step.refl w ?_⟩)
        have e1 : (List.replicate (1 : Int).toNat xs).flatten = xs := by simp
        rw [e1]
        exact ra0
      · have hz : (List.replicate n.toNat vs).flatten.length <= sizeLine := by
          rw [flat_len, sizeLine_eq]
          have a1 : vs.length * n.toNat <= 1000 * 1000 := Nat.mul_le_mul l3 (by omega)
          omega
        exact .inr (.inl ⟨a1, n, vs, rfl, rb, Same.seqT w.sub h2, hne, by omega, l2, l3, fun p hp => k _ _ _ (Step.new w hp) (w.new hp) ⟨p, _, rfl, SqT.of upd_same, hz, RepL.mono (Step.new w hp).fs _ _ (RepL.flat h4 n.toNat)⟩⟩)
    · cases e
  · rename_i xs n
    split at e
    · rename_i hl
      cases e
      obtain ⟨a1, vs, rfl, h2, h3, h4⟩ := ra
      rw [h4.length] at hl
      exact .inl (.inl ⟨a1, n, vs, rfl, rb, w.sub _ _ h2, by omega, by omega, hl.2.2, fun p hp => k _ _ _ (Step.new w hp) (w.new hp) ⟨p, _, rfl, upd_same, by rw [flat_len]; exact hl.2.2, RepL.mono (Step.new w hp).fs _ _ (RepL.flat h4 n.toNat)⟩⟩)
    · cases e
  · obtain ⟨i, j, rfl, rfl, hcc, rfl⟩ := iopC_some e
    exact .inl (.inr ⟨i, j, ra, rb, (of_decide_eq_true hcc : (-(2 ^ 64) < i /\ i < 2 ^ 64) \/ (-(2 ^ 64) < j /\ j < 2 ^ 64)), k F H _ Step.refl w rfl⟩)
mutual
def toP : D -> Option PyData
  | .non => some .none
  | .bl b => some (.bool b)
  | .int i => some (.int i)
  | .str x => some (.str x)
  | .tup xs => (toPs xs).map .tuple
  | .lst xs => (toPs xs).map .list
  | .obj _ _ _ => none
  | .drw => none
  | .scr _ => none
  | .dct _ _ => none
  | .dcT _ _ => none
  | .dcN _ _ => none
  | .exm _ _ => none
  | .ptp _ => none
  | .mob _ _ _ => none
  | .exc _ _ _ => none
def toPs : List D -> Option (List PyData)
  | [] => some []
  | d :: ds => (toP d).bind fun p => (toPs ds).map fun ps => p :: ps
end
mutual
theorem dp_of {K : PySem.W.Frag} {mg : Str -> Option Value} {wd : World} {dl : Dr wd K mg} {F H : Hp} (sub : Same F H) : ∀ (d : D) (v : V) (p : PyData), Rep K mg dl F d v -> toP d = some p -> Dp K H v p
  | .non, v, p, r, e => by cases e; cases (show v = .non from r); exact .non
  | .bl b, v, p, r, e => by cases e; cases (show v = .bl b from r); exact .bl b
  | .int i, v, p, r, e => by cases e; cases (show v = .int i from r); exact .int i
  | .str x, v, p, r, e => by cases e; cases (show v = .str x from r); exact .str x
  | .obj _ _ _, v, p, r, e => by cases e
  | .drw, v, p, r, e => by cases e
  | .scr _, v, p, r, e => by cases e
  | .dct _ _, v, p, r, e => by cases e
  | .dcT _ _, v, p, r, e => by cases e
  | .dcN _ _, v, p, r, e => by cases e
  | .exm _ _, v, p, r, e => by cases e
  | .ptp _, v, p, r, e => by cases e
  | .mob _ _ _, v, p, r, e => by cases e
  | .exc _ _ _, v, p, r, e => by cases e
  | .tup xs, v, p, r, e => by
    obtain ⟨a, vs, rfl, h2, h3, h4⟩ := r
    unfold toP at e
    cases q : toPs xs with
    | none => rw [q] at e; cases e
    | some ps => rw [q] at e; cases e; exact .tup (Same.seqT sub h2) (dps_of sub xs vs ps h4 q)
  | .lst xs, v, p, r, e => by
    obtain ⟨a, vs, rfl, h2, h3, h4⟩ := r
    unfold toP at e
    cases q : toPs xs with
    | none => rw [q] at e; cases e
    | some ps => rw [q] at e; cases e; exact .lst (SqL.of (sub _ _ h2)) (dps_of sub xs vs ps h4 q)
theorem dps_of {K : PySem.W.Frag} {mg : Str -> Option Value} {wd : World} {dl : Dr wd K mg} {F H : Hp} (sub : Same F H) : ∀ (ds : List D) (vs : List V) (ps : List PyData), RepL K mg dl F ds vs -> toPs ds = some ps -> DpAll K H vs ps
  | [], vs, ps, r, e => by cases e; cases (show vs = [] from r); exact .nil
  | d :: ds, vs, ps, r, e => by
    obtain ⟨v, vs', rfl, h1, h2⟩ := r
    unfold toPs at e
    cases q : toP d with
    | none => rw [q] at e; cases e
    | some p =>
      rw [q] at e
      cases q2 : toPs ds with
      | none => rw [q2] at e; cases e
      | some ps' => rw [q2] at e; cases e; exact .cons (dp_of sub d v p h1 q) (dps_of sub ds vs' ps' h2 q2)
end
def p2 (g : PyData -> PyData -> D) : D -> D -> Option D := fun a b => (toP a).bind fun p => (toP b).bind fun q => if SeqAt.shaped p = true /\ SeqAt.shaped q = true then some (g p q) else none
theorem p2_some {g : PyData -> PyData -> D} {a b d : D} (h : p2 g a b = some d) : ∃ p q, toP a = some p /\ toP b = some q /\ SeqAt.shaped p = true /\ SeqAt.shaped q = true /\ d = g p q := by
  unfold p2 at h
  cases e1 : toP a with
  | none => rw [e1] at h; cases h
  | some p =>
    rw [e1] at h
    cases e2 : toP b with
    | none => rw [e2] at h; cases h
    | some q =>
      rw [e2] at h
      simp only [Option.bind_some] at h
      split at h
      · rename_i hc
        cases h
        exact ⟨p, q, rfl, rfl, hc.1, hc.2, rfl⟩
      · cases h
def eqD := p2 fun p q => .bl (PyData.eqv p q)
def neD := p2 fun p q => .bl (!PyData.eqv p q)
theorem od_eq (hu : X.A.units + 64 < cLine) : OpR X (compareOp .Eq) (rD X dl eqD) := by
  refine rd_of (op_eqD hu) fun x y H Q F s a b d w ra rb e k => ?_
  obtain ⟨p, q, h1, h2, h3, h4, rfl⟩ := p2_some e
  exact ⟨p, q, dp_of w.sub _ _ _ ra h1, dp_of w.sub _ _ _ rb h2, h3, h4, k F H _ Step.refl w rfl⟩
theorem od_ne (hu : X.A.units + 64 < cLine) : OpR X (compareOp .NotEq) (rD X dl neD) := by
  refine rd_of (op_neD hu) fun x y H Q F s a b d w ra rb e k => ?_
  obtain ⟨p, q, h1, h2, h3, h4, rfl⟩ := p2_some e
  exact ⟨p, q, dp_of w.sub _ _ _ ra h1, dp_of w.sub _ _ _ rb h2, h3, h4, k F H _ Step.refl w rfl⟩
def toV : D -> Option V
  | .non => some .non
  | .bl b => some (.bl b)
  | .int i => some (.int i)
  | .str x => some (.str x)
  | _ => none
theorem toV_rep {K : PySem.W.Frag} {mg : Str -> Option Value} {wd : World} {dl : Dr wd K mg} {F : Hp} {d : D} {v u : V} (r : Rep K mg dl F d v) (e : toV d = some u) : v = u /\ flatV u = true := by
  cases d <;> simp [toV] at e <;> subst e <;> exact ⟨r, rfl⟩
def toVs : List D -> Option (List V)
  | [] => some []
  | d :: ds => (toV d).bind fun v => (toVs ds).map fun vs => v :: vs
theorem toVs_rep {K : PySem.W.Frag} {mg : Str -> Option Value} {wd : World} {dl : Dr wd K mg} {F : Hp} : ∀ {ds : List D} {vs us : List V}, RepL K mg dl F ds vs -> toVs ds = some us -> vs = us /\ us.all flatV = true
  | [], vs, us, r, e => by cases e; exact ⟨r, rfl⟩
  | d :: ds, vs, us, r, e => by
    obtain ⟨v, vs', rfl, h1, h2⟩ := r
    unfold toVs at e
    cases q : toV d with
    | none => rw [q] at e; cases e
    | some p =>
      rw [q] at e
      cases q2 : toVs ds with
      | none => rw [q2] at e; cases e
      | some ps =>
        rw [q2] at e
        cases e
        obtain ⟨rfl, f1⟩ := toV_rep h1 q
        obtain ⟨rfl, f2⟩ := toVs_rep h2 q2
        exact ⟨rfl, by simp [f1, f2]⟩
def inB (a : D) : D -> Option Bool
  | .str z => match a with
    | .str x => if x.cps.size = 1 then some (decide (x.cps.getD 0 0 ∈ z.cps.toList)) else none
    | _ => none
  | .lst ys => (toV a).bind fun v => (toVs ys).map fun vs => inV v vs
  | .tup ys => (toV a).bind fun v => (toVs ys).map fun vs => inV v vs
  | _ => none
def inD : D -> D -> Option D := fun a b => (inB a b).map .bl
def ninD : D -> D -> Option D := fun a b => (inB a b).map fun k => .bl (!k)
theorem in_core {F H : Hp} {s : DS} {a b : D} {x y : V} {k : Bool} (w : Wd dl F H s) (ra : Rep X.K X.mg dl F a x) (rb : Rep X.K X.mg dl F b y) (e : inB a b = some k) :
    (∃ (c : Nat) (z : Str), x = .str ⟨#[c]⟩ /\ y = .str z /\ k = decide (c ∈ z.cps.toList)) \/ (∃ p xs, y = .ref p /\ (SqL X.K H p xs \/ SqT X.K H p xs) /\ flatV x = true /\ xs.all flatV = true /\ k = inV x xs) := by
  cases b with
  | str z =>
    cases a with
    | str x' =>
      have e : (if x'.cps.size = 1 then some (decide (x'.cps.getD 0 0 ∈ z.cps.toList)) else none) = some k := e
      by_cases hx : x'.cps.size = 1
      · rw [if_pos hx] at e
        cases e
        refine .inl ⟨x'.cps.getD 0 0, z, ?_, rb, rfl⟩
        have : x' = ⟨#[x'.cps.getD 0 0]⟩ := by
          obtain ⟨cs⟩ := x'
          have hs : cs.size = 1 := hx
          congr 1
          apply Array.ext
          · simp [hs]
          · intro i h1 h2
            have : i = 0 := by omega
            subst this
            simp [Array.getD, hs]
        rw [<- this]
        exact ra
      · rw [if_neg hx] at e; cases e
    | _ => cases e
  | lst ys =>
    have e : ((toV a).bind fun v => (toVs ys).map fun vs => inV v vs) = some k := e
    cases q : toV a with
    | none => rw [q] at e; cases e
    | some v =>
      rw [q] at e
      cases q2 : toVs ys with
      | none => rw [q2] at e; cases e
      | some vs =>
        rw [q2] at e
        cases e
        obtain ⟨rfl, f1⟩ := toV_rep ra q
        obtain ⟨a2, us, rfl, h5, h6, h7⟩ := rb
        obtain ⟨rfl, f2⟩ := toVs_rep h7 q2
        exact .inr ⟨a2, us, rfl, .inl (SqL.of (w.sub _ _ h5)), f1, f2, rfl⟩
  | tup ys =>
    have e : ((toV a).bind fun v => (toVs ys).map fun vs => inV v vs) = some k := e
    cases q : toV a with
    | none => rw [q] at e; cases e
    | some v =>
      rw [q] at e
      cases q2 : toVs ys with
      | none => rw [q2] at e; cases e
      | some vs =>
        rw [q2] at e
        cases e
        obtain ⟨rfl, f1⟩ := toV_rep ra q
        obtain ⟨a2, us, rfl, h5, h6, h7⟩ := rb
        obtain ⟨rfl, f2⟩ := toVs_rep h7 q2
        exact .inr ⟨a2, us, rfl, .inr (Same.seqT w.sub h5), f1, f2, rfl⟩
  | _ => cases e
theorem od_in : OpR X (compareOp .In) (rD X dl inD) := by
  refine rd_of (opR_or op_in_sign op_in_seq) fun x y H Q F s a b d w ra rb e k => ?_
  unfold inD at e
  cases q : inB a b with
  | none => rw [q] at e; cases e
  | some t =>
    rw [q] at e
    cases e
    rcases in_core w ra rb q with ⟨c, z, rfl, rfl, rfl⟩ | ⟨p, xs, rfl, h1, h2, h3, rfl⟩
    · exact .inl ⟨c, z, rfl, rfl, k F H _ Step.refl w rfl⟩
    · exact .inr ⟨p, xs, rfl, h1, h2, h3, k F H _ Step.refl w rfl⟩
theorem od_notIn : OpR X (compareOp .NotIn) (rD X dl ninD) := by
  refine rd_of (opR_or op_notIn_sign op_notIn_seq) fun x y H Q F s a b d w ra rb e k => ?_
  unfold ninD at e
  cases q : inB a b with
  | none => rw [q] at e; cases e
  | some t =>
    rw [q] at e
    cases e
    rcases in_core w ra rb q with ⟨c, z, rfl, rfl, rfl⟩ | ⟨p, xs, rfl, h1, h2, h3, rfl⟩
    · exact .inl ⟨c, z, rfl, rfl, k F H _ Step.refl w rfl⟩
    · exact .inr ⟨p, xs, rfl, h1, h2, h3, k F H _ Step.refl w rfl⟩
end
end
section
section
variable {X : Cx} {dl : Dr X.w X.K X.mg} {W : WX}
theorem rc_of {v0 : Value} {r : List V -> Hp -> VK -> Prop} {g : List D -> Option D} (h : CallR X v0 r)
    (w : ∀ xs H Q F s ds d, Wd dl F H s -> RepL X.K X.mg dl F ds xs -> g ds = some d -> (∀ F' H' v, Step dl F H F' H' -> Wd dl F' H' s -> Rep X.K X.mg dl F' d v -> Q v H') -> r xs H Q) : CallR X v0 (rCD X dl g) := by
  intro pins s sg H xs us Q I rx q
  obtain ⟨F, st, ds, d, wd, ra, e, k⟩ := q
  exact h pins s sg H xs us Q I rx (w xs H Q F st ds d wd ra e k)
theorem callR_or {v0 : Value} {r r' : List V -> Hp -> VK -> Prop} (h : CallR X v0 r) (h' : CallR X v0 r') : CallR X v0 (fun xs H Q => r xs H Q \/ r' xs H Q) := by
  intro pins s sg H xs us Q I rx q
  rcases q with q | q
  · exact h pins s sg H xs us Q I rx q
  · exact h' pins s sg H xs us Q I rx q
theorem repL1 {K : PySem.W.Frag} {mg : Str -> Option Value} {wd : World} {dl : Dr wd K mg} {F : Hp} {d : D} {xs : List V} (h : RepL K mg dl F [d] xs) : ∃ v, xs = [v] /\ Rep K mg dl F d v := by
  obtain ⟨v, vs', rfl, h1, h2⟩ := h
  cases (show vs' = [] from h2)
  exact ⟨v, rfl, h1⟩
theorem repL2 {K : PySem.W.Frag} {mg : Str -> Option Value} {wd : World} {dl : Dr wd K mg} {F : Hp} {d e : D} {xs : List V} (h : RepL K mg dl F [d, e] xs) : ∃ v u, xs = [v, u] /\ Rep K mg dl F d v /\ Rep K mg dl F e u := by
  obtain ⟨v, vs', rfl, h1, h2⟩ := h
  obtain ⟨u, rfl, h3⟩ := repL1 h2
  exact ⟨v, u, rfl, h1, h3⟩
def len1 : D -> Option Nat
  | .lst xs => some xs.length
  | .tup xs => some xs.length
  | .str x => if x.length <= sizeLine then some x.length else none
  | .scr xs => some xs.length
  | _ => none
def lenD : List D -> Option D
  | [d] => (len1 d).map fun (n : Nat) => D.int (n : Int)
  | _ => none
theorem cd_len : CallR X (.builtin "len") (rCD X dl lenD) := by
  refine rc_of call_len fun xs H Q F s ds d w ra e k => ?_
  unfold lenD at e
  split at e
  · rename_i d0
    obtain ⟨v, rfl, r⟩ := repL1 ra
    have fin : ∀ n : Nat, d = .int n -> Q (.int n) H := fun n z => by subst z; exact k F H _ Step.refl w rfl
    cases d0 with
    | lst ys =>
      obtain ⟨a1, vs, rfl, h2, h3, h4⟩ := r
      cases e
      exact ⟨_, ys.length, rfl, .inl ⟨vs, SqL.of (w.sub _ _ h2), h4.length⟩, fin _ rfl⟩
    | tup ys =>
      obtain ⟨a1, vs, rfl, h2, h3, h4⟩ := r
      cases e
      exact ⟨_, ys.length, rfl, .inr ⟨vs, Same.seqT w.sub h2, h4.length⟩, fin _ rfl⟩
    | scr ys =>
      obtain ⟨a1, rfl, h2, h3⟩ := r
      cases e
      exact ⟨_, ys.length, rfl, .inl ⟨_, L2.Same.seq w.sub h2, by simp⟩, fin _ rfl⟩
    | str z =>
      cases (show v = .str z from r)
      have e : (if z.length <= sizeLine then some z.length else none).map (fun n : Nat => D.int n) = some d := e
      by_cases hz : z.length <= sizeLine
      · rw [if_pos hz] at e
        cases e
        exact ⟨_, z.length, rfl, ⟨hz, rfl⟩, fin _ rfl⟩
      · rw [if_neg hz] at e; cases e
    | _ => cases e
  · cases e
def gLenO (i : Nat) : SE := fun G => bnd (gItO i G) fun ds => ret (.int ds.length)
def bools : List D -> Option (List Bool)
  | [] => some []
  | .bl b :: ds => (bools ds).map fun bs => b :: bs
  | _ => none
theorem bools_rep {K : PySem.W.Frag} {mg : Str -> Option Value} {wd : World} {dl : Dr wd K mg} {F : Hp} : ∀ {ds : List D} {vs : List V} {bs : List Bool}, RepL K mg dl F ds vs -> bools ds = some bs -> vs = bs.map V.bl
  | [], vs, bs, r, e => by cases e; exact r
  | d :: ds, vs, bs, r, e => by
    obtain ⟨v, vs', rfl, h1, h2⟩ := r
    cases d with
    | bl b =>
      unfold bools at e
      cases q : bools ds with
      | none => rw [q] at e; cases e
      | some cs =>
        rw [q] at e
        cases e
        cases (show v = .bl b from h1)
        rw [bools_rep h2 q]
        rfl
    | _ => cases e
def allD : List D -> Option D
  | [.lst ds] => (bools ds).map fun bs => .bl (bs.all id)
  | _ => none
def anyD : List D -> Option D
  | [.lst ds] => (bools ds).map fun bs => .bl (bs.any id)
  | _ => none
theorem cd_all (hc : X.calm = true) : CallR X (.builtin "all") (rCD X dl allD) := by
  refine rc_of (cr_all hc) fun xs H Q F s ds d w ra e k => ?_
  unfold allD at e
  split at e
  · rename_i ds0
    obtain ⟨v, rfl, r⟩ := repL1 ra
    obtain ⟨a1, vs, rfl, h2, h3, h4⟩ := r
    cases q : bools ds0 with
    | none => rw [q] at e; cases e
    | some bs =>
      rw [q] at e
      cases e
      cases bools_rep h4 q
      exact ⟨a1, bs, rfl, SqL.of (w.sub _ _ h2), k F H _ Step.refl w rfl⟩
  · cases e
theorem cd_any (hc : X.calm = true) : CallR X (.builtin "any") (rCD X dl anyD) := by
  refine rc_of (cr_any hc) fun xs H Q F s ds d w ra e k => ?_
  unfold anyD at e
  split at e
  · rename_i ds0
    obtain ⟨v, rfl, r⟩ := repL1 ra
    obtain ⟨a1, vs, rfl, h2, h3, h4⟩ := r
    cases q : bools ds0 with
    | none => rw [q] at e; cases e
    | some bs =>
      rw [q] at e
      cases e
      cases bools_rep h4 q
      exact ⟨a1, bs, rfl, SqL.of (w.sub _ _ h2), k F H _ Step.refl w rfl⟩
  · cases e
def tupleD : List D -> Option D
  | [.lst ds] => some (.tup ds)
  | [.tup ds] => some (.tup ds)
  | _ => none
theorem cd_tuple : CallR X (.type "tuple") (rCD X dl tupleD) := by
  refine rc_of call_tuple_of fun xs H Q F s ds d w ra e k => ?_
  unfold tupleD at e
  split at e
  · cases e
    obtain ⟨v, rfl, a1, vs, rfl, h2, h3, h4⟩ := repL1 ra
    exact ⟨a1, vs, rfl, .inl ⟨SqL.of (w.sub _ _ h2), fun p hp => k _ _ _ (Step.new w hp) (w.new hp) ⟨p, vs, rfl, SqT.of upd_same, h3, RepL.mono (Step.new w hp).fs _ _ h4⟩⟩⟩
  · cases e
    obtain ⟨v, rfl, r⟩ := repL1 ra
    have r0 := r
    obtain ⟨a1, vs, rfl, h2, h3, h4⟩ := r
    exact ⟨a1, vs, rfl, .inr ⟨Same.seqT w.sub h2, k F H _ Step.refl w r0⟩⟩
  · cases e
def listD : List D -> Option D
  | [.lst ds] => some (.lst ds)
  | [.tup ds] => some (.lst ds)
  | _ => none
theorem cd_list : CallR X (.type "list") (rCD X dl listD) := by
  refine rc_of call_list_of fun xs H Q F s ds d w ra e k => ?_
  unfold listD at e
  split at e
  · cases e
    obtain ⟨v, rfl, a1, vs, rfl, h2, h3, h4⟩ := repL1 ra
    exact ⟨a1, vs, rfl, .inl (SqL.of (w.sub _ _ h2)), fun p hp => k _ _ _ (Step.new w hp) (w.new hp) ⟨p, vs, rfl, upd_same, h3, RepL.mono (Step.new w hp).fs _ _ h4⟩⟩
  · cases e
    obtain ⟨v, rfl, a1, vs, rfl, h2, h3, h4⟩ := repL1 ra
    exact ⟨a1, vs, rfl, .inr (Same.seqT w.sub h2), fun p hp => k _ _ _ (Step.new w hp) (w.new hp) ⟨p, vs, rfl, upd_same, h3, RepL.mono (Step.new w hp).fs _ _ h4⟩⟩
  · cases e
def gLO1 (g : List D -> Option D) (r : SA) : SA := fun G => bnd (r G) fun ds => ofO ((g ds).bind itemsTL)
def min2D : List D -> Option D
  | [.int i, .int j] => some (.int (if j < i then j else i))
  | _ => none
theorem cd_min2 (hc : X.calm = true) : CallR X (.builtin "min") (rCD X dl min2D) := by
  refine rc_of (call_min2 hc) fun xs H Q F s ds d w ra e k => ?_
  unfold min2D at e
  split at e
  · cases e
    obtain ⟨v, u, rfl, r1, r2⟩ := repL2 ra
    exact ⟨_, _, by rw [show v = .int _ from r1, show u = .int _ from r2], k F H _ Step.refl w rfl⟩
  · cases e
def ixD : D -> D -> Option D
  | .lst xs, .int i => atI xs i
  | .tup xs, .int i => atI xs i
  | .str x, .int i => if x.length <= sizeLine then (atI x.cps.toList i).map fun c => .str ⟨#[c]⟩ else none
  | _, _ => none
theorem atI_rep {K : PySem.W.Frag} {mg : Str -> Option Value} {wd : World} {dl : Dr wd K mg} {F : Hp} {ds : List D} {vs : List V} {i : Int} {d : D} (h : RepL K mg dl F ds vs) (e : atI ds i = some d) : ∃ v, atI vs i = some v /\ Rep K mg dl F d v := by
  unfold atI at e ⊢
  rw [h.length] at e
  cases q : ixN vs.length i with
  | none => rw [q] at e; cases e
  | some j =>
    rw [q] at e
    exact h.get e
theorem ix_seqD : IxR X (rD X dl ixD) := by
  intro value slice pins s sg H x y v u Q I rx ry q hsub
  obtain ⟨F, st, a, b, d, w, ra, rb, e, k⟩ := q
  refine ix_seq value slice pins s sg H x y v u Q I rx ry ?_ hsub
  unfold ixD at e
  split at e
  · obtain ⟨a1, vs, rfl, h2, h3, h4⟩ := ra
    obtain ⟨v1, e1, r1⟩ := atI_rep h4 e
    exact .inl ⟨a1, vs, _, v1, rfl, rb, SqL.of (w.sub _ _ h2), e1, k F H _ Step.refl w r1⟩
  · obtain ⟨a1, vs, rfl, h2, h3, h4⟩ := ra
    obtain ⟨v1, e1, r1⟩ := atI_rep h4 e
    exact .inr (.inl ⟨a1, vs, _, v1, rfl, rb, Same.seqT w.sub h2, e1, k F H _ Step.refl w r1⟩)
  · rename_i z i
    split at e
    · rename_i hz
      cases q : atI z.cps.toList i with
      | none => rw [q] at e; cases e
      | some c =>
        rw [q] at e
        cases e
        exact .inr (.inr ⟨z, i, c, ra, rb, hz, q, k F H _ Step.refl w rfl⟩)
    · cases e
  · cases e
theorem de_sub {a b : Expr} {fa fb : SE} {pos : Pos} (ha : DE X dl W a fa) (hb : DE X dl W b fb) (hs : PlainIx b := by exact fun _ _ => rfl) : DE X dl W (.Subscript a b pos) (g2 ixD fa fb) := de_ix ix_seqD ha hb hs
abbrev SO := Sls -> M (Option Int)
def oNone : SO := fun _ => ret none
def asI : D -> Option (Option Int)
  | .int i => some (some i)
  | _ => none
def oSome (f : SE) : SO := fun G => bnd (f G) fun d => ofO (asI d)
section
variable (X dl W)
def tDO' (f : SO) : TO := fun sg H Q => ∃ F, tGF X dl W F f (fun o _ H' => Q o H') sg H
abbrev DOp (e : Option Expr) (f : SO) : Prop := PO X e (tDO' X dl W f)
end
theorem PO.of {e : Option Expr} {t t' : TO} (h : PO X e t) (w : ∀ sg H Q, t' sg H Q -> t sg H Q) : PO X e t' := ⟨fun pins s sg H Q I q => h.run pins s sg H Q I (w _ _ _ q)⟩
theorem do_none : DOp X dl W none oNone := by
  refine PO.of po_none fun sg H Q q => ?_
  obtain ⟨F, q⟩ := q
  exact q.rt
theorem do_some {e : Expr} {f : SE} (h : DE X dl W e f) : DOp X dl W (some e) (oSome f) := by
  refine PO.of (po_some h) fun sg H Q q => ?_
  obtain ⟨F, q⟩ := q
  refine ⟨F, q.bnd.imp fun d F1 H1 ⟨st1, q1⟩ v rv => ?_⟩
  obtain ⟨o, s, e1, w, q2⟩ := q1.op
  cases d with
  | int i =>
    cases e1
    exact ⟨i, rv, q2 F1 H1 Step.refl w⟩
  | _ => cases e1
def cutL {α : Type} (xs : List α) (lo hi : Option Int) : List α := (xs.drop (HT.sIx xs.length 0 lo)).take (HT.sIx xs.length xs.length hi - HT.sIx xs.length 0 lo)
def sliceD (lo hi : Option Int) : D -> Option D
  | .lst xs => some (.lst (cutL xs lo hi))
  | .tup xs => some (.tup (cutL xs lo hi))
  | _ => none
theorem RepL.cut {K : PySem.W.Frag} {mg : Str -> Option Value} {wd : World} {dl : Dr wd K mg} {F : Hp} {ds : List D} {vs : List V} (h : RepL K mg dl F ds vs) (lo hi : Option Int) : RepL K mg dl F (cutL ds lo hi) (cutV vs lo hi) := by
  unfold cutL cutV
  rw [h.length]
  exact (h.drop _).take _
theorem cut_le {vs : List V} {lo hi : Option Int} (h : vs.length <= sizeLine) : (cutV vs lo hi).length <= sizeLine := by
  unfold cutV
  rw [List.length_take, List.length_drop]
  omega
def gSl (f : SE) (lo hi : SO) : SE := fun G => bnd (f G) fun d => bnd (lo G) fun l => bnd (hi G) fun u => ofO (sliceD l u d)
theorem de_slice {e : Expr} {l u : Option Expr} {f : SE} {fl fu : SO} {p2 pos : Pos} (he : DE X dl W e f) (hl : DOp X dl W l fl) (hu : DOp X dl W u fu) : DE X dl W (.Subscript e (.Slice l u none p2) pos) (gSl f fl fu) := by
  refine PE.of (pe_slice (SlR.or sl_list sl_tupA) he hl hu) fun sg H Q q => ?_
  obtain ⟨F, q⟩ := q
  refine ⟨F, q.bnd.imp fun d F1 H1 ⟨st1, q1⟩ v rv => ⟨F1, q1.bnd.imp fun lo F2 H2 ⟨st2, q2⟩ => ⟨F2, q2.bnd.imp fun hi F3 H3 ⟨st3, q3⟩ => ?_⟩⟩⟩
  obtain ⟨r, s, e1, w, q4⟩ := q3.op
  have rv3 := Rep.mono (st2.trans st3).fs _ _ rv
  cases d with
  | lst xs =>
    cases e1
    obtain ⟨a1, vs, rfl, h2, h3, h4⟩ := rv3
    exact .inl ⟨a1, vs, rfl, SqL.of (w.sub _ _ h2), fun p hp => q4 _ _ (Step.new w hp) (w.new hp) _ ⟨p, _, rfl, upd_same, cut_le h3, RepL.mono (Step.new w hp).fs _ _ (h4.cut lo hi)⟩⟩
  | tup xs =>
    cases e1
    have rv0 := rv3
    obtain ⟨a1, vs, rfl, h2, h3, h4⟩ := rv3
    refine .inr ⟨a1, vs, rfl, Same.seqT w.sub h2, fun hz => ?_, fun _ p hp => q4 _ _ (Step.new w hp) (w.new hp) _ ⟨p, _, rfl, SqT.of upd_same, cut_le h3, RepL.mono (Step.new w hp).fs _ _ (h4.cut lo hi)⟩⟩
    have e : cutL xs lo hi = xs := by
      unfold cutL
      rw [h4.length, hz.1, hz.2, List.drop_zero, Nat.sub_zero, <- h4.length, List.take_length]
    rw [e] at q4
    exact q4 F3 H3 Step.refl w _ rv0
  | _ => cases e1
end
end
section
def FldF (K : PySem.W.Frag) (mg : Str -> Option Value) (c f : Str) : Prop := ∃ C, mg c = some (.ref C) /\ Cls K C /\ NoAttr K C f
section
variable {X : Cx} {dl : Dr X.w X.K X.mg} {W : WX} {pos apos p : Pos} {e : Expr} {fe : SE}
def isC (c : Str) : D -> Bool
  | .obj c' _ _ => decide (c' = c)
  | _ => false
def isM (c : Str) : D -> Bool
  | .mob c' _ _ => decide (c' = c /\ c ≠ noC)
  | _ => false
def mobK {α : Type} (p : Bool) (k : M α) : M α := if p then (fun s => if s.live = true then k s else none) else fail
theorem mobK_some {α : Type} {p : Bool} {k : M α} {s : DS} {r : Res α × DS} (h : mobK p k s = some r) : p = true /\ s.live = true /\ k s = some r := by
  unfold mobK at h
  by_cases q : p = true
  · rw [if_pos q] at h
    by_cases l : s.live = true
    · rw [if_pos l] at h; exact ⟨q, l, h⟩
    · rw [if_neg l] at h; cases h
  · rw [if_neg q] at h; cases h
theorem Go.mobK {α : Type} {p : Bool} {k : M α} {s : DS} {mg : Str -> Option Value} {K : PySem.W.Frag} {wd : World} {dl : Dr wd K mg} {W : XK'} {F H : Hp} {q : α -> DS -> Hp -> Hp -> Prop} (g : Go mg K dl W F H (EK.mobK p k s) q) : p = true /\ s.live = true /\ Go mg K dl W F H (k s) q := by
  cases e : EK.mobK p k s with
  | none => rw [e] at g; exact g.elim
  | some r =>
    obtain ⟨h1, h2, h3⟩ := mobK_some e
    rw [e] at g
    exact ⟨h1, h2, by rw [h3]; exact g⟩
theorem Go.sel {α : Type} {p p' : Bool} {k : M α} {s : DS} {mg : Str -> Option Value} {K : PySem.W.Frag} {wd : World} {dl : Dr wd K mg} {W : XK'} {F H : Hp} {q : α -> DS -> Hp -> Hp -> Prop} (g : Go mg K dl W F H ((if p = true then k else EK.mobK p' k) s) q) : (p = true \/ p' = true /\ s.live = true) /\ Go mg K dl W F H (k s) q := by
  by_cases h : p = true
  · rw [if_pos h] at g; exact ⟨.inl h, g⟩
  · rw [if_neg h] at g
    obtain ⟨h1, h2, h3⟩ := g.mobK
    exact ⟨.inr ⟨h1, h2⟩, h3⟩
theorem isC_some {c : Str} {d : D} (h : isC c d = true) : ∃ ns xs, d = .obj c ns xs := by
  cases d with
  | obj c' ns xs => exact ⟨ns, xs, by rw [of_decide_eq_true h]⟩
  | _ => cases h
def fldR (c f : Str) : D -> Option D
  | .obj c' ns xs => if c' = c then (ns.zip xs).lookup f else none
  | _ => none
def fldD (c f : Str) (d : D) : Option D := (fldR c f d).map unp
theorem zip_lookup {K : PySem.W.Frag} {mg : Str -> Option Value} {wd : World} {dl : Dr wd K mg} {F : Hp} {f : Str} {d : D} : ∀ {ns : List Str} {xs : List D} {vs : List V}, RepL K mg dl F xs vs -> (ns.zip xs).lookup f = some d -> ∃ v, (ns.zip vs).lookup f = some v /\ Rep K mg dl F d v
  | [], _, _, _, e => by simp at e
  | n :: ns, [], _, _, e => by simp at e
  | n :: ns, x :: xs, vs, r, e => by
    obtain ⟨v, vs', rfl, h1, h2⟩ := r
    rw [List.zip_cons_cons] at e ⊢
    unfold List.lookup at e ⊢
    cases q : (f == n) with
    | true =>
      simp only [q] at e ⊢
      cases e
      exact ⟨v, rfl, h1⟩
    | false =>
      simp only [q] at e ⊢
      exact zip_lookup h2 e
def mobFld (c f : Str) : D -> M D
  | .mob c' ns i => fun s => if (c' = c /\ c ≠ noC) /\ s.live = true then (match s.objs[i]? with
    | some xs => (match ((ns.zip xs).lookup f).map unp with
      | some y => some (.ok y, s)
      | none => none)
    | none => none) else none
  | _ => fail
def orM (o : Option D) (k : M D) : M D := match o with
  | some y => ret y
  | none => k
theorem orM_some (y : D) (k : M D) : orM (some y) k = ret y := rfl
def gFld (c f : Str) (fe : SE) : SE := fun G => bnd (fe G) fun d => orM (fldD c f d) (mobFld c f d)
theorem mob_get {F H : Hp} {s : DS} {c : Str} {ns : List Str} {i : Nat} {v : V} (w : Wd dl F H s) (lv : s.live = true) (hc : c ≠ noC) (r : Rep X.K X.mg dl F (.mob c ns i) v) :
    ∃ (a dx C : Addr) (xs : List D) (us : List V), v = .ref a /\ dl.ms[i]? = some (a, dx, c, ns) /\ s.objs[i]? = some xs /\ X.mg c = some (.ref C) /\ H a = some (.ins C dx (ns.zip us)) /\ F dx = some (.own a) /\ ns.length = us.length /\ ns.length <= 900 /\ RepL X.K X.mg dl F xs us := by
  obtain ⟨a, dx, e1, rfl, _⟩ := r
  have ac := w.ob.1 lv
  have O := w.ob.2 ac
  have hi : i < s.objs.length := by rw [<- O.len]; exact (List.getElem?_eq_some_iff.mp e1).1
  obtain ⟨C, us, h1, h2, h3, h4, h5, h6⟩ := O.at_ i a dx c ns s.objs[i] hc e1 (List.getElem?_eq_getElem hi)
  exact ⟨a, dx, C, _, us, rfl, e1, List.getElem?_eq_getElem hi, h1, h2, h3, h4, h5, h6⟩
theorem de_fld {c f : Str} (h : FldF X.K X.mg c f) (he : DE X dl W e fe) (hb : attributeBase e f X.env (eval e X.env) = eval e X.env := by rfl) : DE X dl W (.Attribute e f pos) (gFld c f fe) := by
  obtain ⟨C, h1, h2, h3⟩ := h
  refine PE.of (pe_fld he hb) fun sg H Q q => ?_
  obtain ⟨F, q⟩ := q
  refine ⟨F, q.bnd.imp fun d F1 H1 ⟨st1, q1⟩ v rv => ?_⟩
  cases ef : fldD c f d with
  | none =>
    rw [ef] at q1
    obtain ⟨F0, H0, G, s, w, S, g⟩ := q1
    cases d with
    | mob c' ns i =>
      have gm : Go X.mg X.K dl (fun c d H' => W c d sg H') F1 H1 (mobFld c f (.mob c' ns i) s) _ := g
      unfold mobFld at gm
      by_cases hq : (c' = c /\ c ≠ noC) /\ s.live = true
      case neg => simp only [if_neg hq] at gm; exact gm.elim
      simp only [if_pos hq] at gm
      obtain ⟨⟨rfl, hcn⟩, lv⟩ := hq
      obtain ⟨a, dx, C', xs, us, rfl, m1, m2, m3, m4, m5, m6, m7, m8⟩ := mob_get w lv hcn rv
      rw [m2] at gm
      rw [h1] at m3
      cases m3
      cases e3 : (ns.zip xs).lookup f with
      | none => simp only [e3] at gm; exact gm.elim
      | some y0 =>
        simp only [e3] at gm
        obtain ⟨u, l1, l2⟩ := zip_lookup m8 e3
        exact ⟨a, C, dx, _, u, rfl, m4, h2, h3, l1, gm F1 H1 Step.refl w u l2.unp⟩
    | _ => exact g.elim
  | some y' =>
    have q1 : tGF X dl W F1 (fun _ => EK.ofO (some y')) (fun d F' H' => ∀ v, Rep X.K X.mg dl F' d v -> Q v H') sg H1 := by
      rw [ef] at q1; exact q1
    obtain ⟨y, s, e1, w, q2⟩ := q1.op
    rw [<- ef] at e1
    cases d with
    | obj c' ns xs =>
      have e2 : ((if c' = c then (ns.zip xs).lookup f else none).map unp) = some y := e1
      by_cases hc : c' = c
      · rw [if_pos hc] at e2
        subst hc
        obtain ⟨a, dx, C', vs, rfl, m2, m3, m4, m5, m6⟩ := rv
        rw [h1] at m2
        cases m2
        cases e3 : (ns.zip xs).lookup f with
        | none => rw [e3] at e2; cases e2
        | some y0 =>
          rw [e3] at e2
          cases e2
          obtain ⟨u, l1, l2⟩ := zip_lookup m6 e3
          exact ⟨a, C, dx, _, u, rfl, w.sub _ _ m3, h2, h3, l1, q2 F1 H1 Step.refl w u l2.unp⟩
      · rw [if_neg hc] at e2; cases e2
    | _ => cases e1
structure PropF (P : Program) (w : World) (K : PySem.W.Frag) (mg : Str -> Option Value) (base : Heap) (c f : Str) (k : Nat) (m : List D -> M D) : Prop where
  ex : ∃ (C p g : Addr) (fd : FuncData) (ps : List Str), mg c = some (.ref C) /\ Cls K C /\ PropOf K C f p g /\ ps.length = 1 /\ Binds K fd ps [] /\ FnOk P w K mg base (L2.CX P w) k g fd ps (spD K mg w 1 m)
def gProp (c : Str) (m : List D -> M D) (fe : SE) : SE := fun G => bnd (fe G) fun d => if isC c d then noErr (m [d]) else mobK (isM c d) (noErr (m [d]))
theorem obj_at {F H : Hp} {c : Str} {C : Addr} {d : D} {v : V} (h1 : X.mg c = some (.ref C)) (sub : Same F H) (hc : isC c d = true) (r : Rep X.K X.mg dl F d v) : ∃ a dx fs, v = .ref a /\ H a = some (.ins C dx fs) /\ ∃ ns xs vs, d = .obj c ns xs /\ fs = ns.zip vs /\ ns.length = vs.length := by
  obtain ⟨ns, xs, rfl⟩ := isC_some hc
  obtain ⟨a, dx, C', vs, rfl, m2, m3, m4, m5, m6⟩ := r
  rw [h1] at m2
  cases m2
  exact ⟨a, dx, _, rfl, sub _ _ m3, ns, xs, vs, rfl, rfl, m5⟩
def noFld (m : Str) : D -> Bool
  | .obj _ ns _ => !ns.contains m
  | _ => false
def noFldM (m : Str) : D -> Bool
  | .mob _ ns _ => !ns.contains m
  | _ => false
theorem zip_none {m : Str} : ∀ {ns : List Str} {vs : List V}, ns.contains m = false -> (ns.zip vs).lookup m = none
  | [], _, _ => rfl
  | n :: ns, [], _ => rfl
  | n :: ns, v :: vs, h => by
    rw [List.contains_cons, Bool.or_eq_false_iff] at h
    rw [List.zip_cons_cons]
    unfold List.lookup
    rw [h.1]
    exact zip_none h.2
theorem one_at {F H : Hp} {s : DS} {c : Str} {C : Addr} {d : D} {v : V} (h1 : X.mg c = some (.ref C)) (w : Wd dl F H s) (hc : isC c d = true \/ isM c d = true /\ s.live = true) (r : Rep X.K X.mg dl F d v) :
    ∃ a dx fs, v = .ref a /\ H a = some (.ins C dx fs) /\ ∀ m, (noFld m d || noFldM m d) = true -> fs.lookup m = none := by
  rcases hc with hc | ⟨hc, lv⟩
  · obtain ⟨a, dx, fs, rfl, ha, ns, xs, vs, rfl, rfl, _⟩ := obj_at h1 w.sub hc r
    refine ⟨a, dx, _, rfl, ha, fun m hm => zip_none ?_⟩
    simpa [noFld, noFldM] using hm
  · cases d with
    | mob c' ns i =>
      obtain ⟨ec, hcn⟩ := of_decide_eq_true hc
      subst ec
      obtain ⟨a, dx, C', xs, us, rfl, m1, m2, m3, m4, m5, m6, m7, m8⟩ := mob_get w lv hcn r
      rw [h1] at m3
      cases m3
      refine ⟨a, dx, _, rfl, m4, fun m hm => zip_none ?_⟩
      simpa [noFld, noFldM] using hm
    | _ => cases hc
theorem de_prop {c f : Str} {k : Nat} {m : List D -> M D} (h : PropF X.prog X.w X.K X.mg X.base c f k m) (hr : Room (k + 1) X.A) (he : DE X dl W e fe) (hb : attributeBase e f X.env (eval e X.env) = eval e X.env := by rfl) : DE X dl W (.Attribute e f pos) (gProp c m fe) := by
  obtain ⟨C, pp, g, fd, ps, h1, h2, h3, h4, h5, h6⟩ := h.ex
  refine PE.of (pe_prop he h2 h3 h6 hr h5 .nil passL hb) fun sg H Q q => ?_
  obtain ⟨F, F0, H0, G, s, w, S, g⟩ := q
  refine ⟨F, F0, H0, G, s, w, S, g.bnd.imp fun d s1 F1 H1 st1 w1 g1 v rv => ?_⟩
  obtain ⟨hc, g1⟩ := g1.sel
  obtain ⟨a, dx, fs, rfl, ha, _⟩ := one_at h1 w1 hc rv
  exact ⟨a, dx, fs, rfl, ha, rfl, dl, F1, [d], s1, w1, ⟨_, [], rfl, rv, rfl⟩, g1.noErr⟩
structure MethF (P : Program) (w : World) (K : PySem.W.Frag) (mg : Str -> Option Value) (base : Heap) (c m : Str) (k n : Nat) (fm : List D -> M D) : Prop where
  ex : ∃ (C g : Addr) (fd : FuncData) (ps : List Str), mg c = some (.ref C) /\ Cls K C /\ Meth K C m g /\ ps.length = n + 1 /\ Binds K fd ps [] /\ FnOk P w K mg base (L2.CX P w) k g fd ps (spD K mg w (n + 1) fm)
def gMeth (c m : Str) (n : Nat) (fm : List D -> M D) (fe : SE) (ra : SA) : SE := fun G => bnd (fe G) fun d => if isC c d && noFld m d then bnd (ra G) fun ds => if ds.length = n then fm (d :: ds) else fail else mobK (isM c d && noFldM m d) (bnd (ra G) fun ds => if ds.length = n then fm (d :: ds) else fail)
theorem de_meth {c m : Str} {k n : Nat} {fm : List D -> M D} {a1 : Expr} {es : List Expr} {ra : SA} {pl : Sem Bool} (h : MethF X.prog X.w X.K X.mg X.base c m k n fm) (hr : Room k X.A) (tk : Takes X W) (hW : ∀ cl d sg sg' H, W cl d sg H -> W cl d sg' H) (he : DE X dl W e fe) (ha : DA X dl W (a1 :: es) ra)
    (hst : starEach (a1 :: es) X.env = (false, eval a1 X.env) :: starEach es X.env := by rfl) (hpl : (backTo pos (starEach es X.env)).any (·.1) = false := by rfl)
    (ht : eval (.Call (.Attribute e m apos) (a1 :: es) [] pos) X.env = (do
      let ov <- eval e X.env
      standAt apos.atName
      let (f, first) <- holding [ov] (getMethod ov m pl)
      callWith pos f first (backTo pos (starEach (a1 :: es) X.env)) (backToKw pos (keywordEach [] X.env))) := by rfl) : DE X dl W (.Call (.Attribute e m apos) (a1 :: es) [] pos) (gMeth c m n fm fe ra) := by
  obtain ⟨C, g, fd, ps, h1, h2, h3, h4, h5, h6⟩ := h.ex
  refine PE.of (pe_meth (E := fun cl d H => ∀ sg, W cl d sg H) he h2 h3 h6 hr h5 .nil (passes_call tk fun cl d sg H z => z sg) ha hst hpl ht) fun sg H Q q => ?_
  obtain ⟨F, F0, H0, G, s, w, S, g⟩ := q
  refine ⟨F, F0, H0, G, s, w, S, g.bnd.imp fun d s1 F1 H1 st1 w1 g1 v rv => ?_⟩
  obtain ⟨hc, g1⟩ := g1.sel
  have hc1 : isC c d = true \/ isM c d = true /\ s1.live = true := hc.elim (fun z => .inl (Bool.and_eq_true_iff.mp z).1) fun z => .inr ⟨(Bool.and_eq_true_iff.mp z.1).1, z.2⟩
  have hc2 : (noFld m d || noFldM m d) = true := by
    rcases hc with z | ⟨z, _⟩
    · rw [(Bool.and_eq_true_iff.mp z).2]; rfl
    · rw [(Bool.and_eq_true_iff.mp z).2, Bool.or_true]
  obtain ⟨a, dx, fs, rfl, ha, hnf⟩ := one_at h1 w1 hc1 rv
  · refine ⟨a, dx, _, rfl, ha, hnf m hc2, F1, F0, H0, G, s1, w1, S.step st1, g1.bnd.imp fun ds s2 F2 H2 st2 w2 g2 us rus => ?_⟩
    by_cases hl : ds.length = n
    · rw [if_pos hl] at g2
      refine ⟨by rw [List.length_cons, List.append_nil, <- rus.length, hl], dl, F2, d :: ds, s2, w2, ⟨_, _, rfl, Rep.mono st2.fs _ _ rv, by rw [List.append_nil]; exact rus⟩, ?_⟩
      cases er : fm (d :: ds) s2 with
      | none => rw [er] at g2; exact g2
      | some pr =>
        obtain ⟨r, s3⟩ := pr
        rw [er] at g2
        cases r with
        | ok z => exact g2
        | err x => exact fun F' H' cl d st wd xr sg' => hW _ _ _ _ _ (g2 F' H' cl d st wd xr)
    · rw [if_neg hl] at g2; exact g2.elim
def gMeth0 (c m : Str) (fm : List D -> M D) (fe : SE) : SE := fun G => bnd (fe G) fun d => if isC c d && noFld m d then fm [d] else mobK (isM c d && noFldM m d) (fm [d])
def tyN : D -> Option String
  | .non => some "NoneType"
  | .bl _ => some "bool"
  | .int _ => some "int"
  | .str _ => some "str"
  | .tup _ => some "tuple"
  | .lst _ => some "list"
  | .scr _ => some "list"
  | .drw => some "dict"
  | .dct _ _ => some "dict"
  | .dcT _ _ => none
  | .dcN _ _ => none
  | .exm _ _ => none
  | .ptp _ => none
  | .mob _ _ _ => none
  | .exc _ _ _ => none
  | .obj _ _ _ => none
theorem tyx_of {F H : Hp} {s : DS} {d : D} {v : V} {t : String} (w : Wd dl F H s) (r : Rep X.K X.mg dl F d v) (e : tyN d = some t) : TyX X.K H v (.type t) := by
  cases d with
  | non => cases e; cases (show v = .non from r); exact .base .non
  | bl b => cases e; cases (show v = .bl b from r); exact .base (.bl b)
  | int i => cases e; cases (show v = .int i from r); exact .base (.int i)
  | str x => cases e; cases (show v = .str x from r); exact .base (.str x)
  | tup xs =>
    cases e
    obtain ⟨a1, vs, rfl, h2, h3, h4⟩ := r
    rcases Same.seqT w.sub h2 with (h | ⟨o, h⟩) | ⟨o, its, n, hk, hc, _⟩
    · exact .base (.tup h)
    · exact .fTuple h
    · exact .kTuple hk hc
  | lst xs =>
    cases e
    obtain ⟨a1, vs, rfl, h2, h3, h4⟩ := r
    exact .base (.lst (w.sub _ _ h2))
  | scr xs =>
    cases e
    obtain ⟨a1, rfl, h2, h3⟩ := r
    rcases L2.Same.seq w.sub h2 with (h | ⟨o, h⟩) | ⟨o, its, n, hk, hc, _⟩
    · exact .base (.lst h)
    · exact .base (.frz h)
    · exact .kList hk hc
  | drw => cases e; cases (show v = .ref dl.a from r); exact .base (.dK w.dr.1)
  | obj _ _ _ => cases e
  | dct ks xs =>
    cases e
    obtain ⟨a1, o, vs, rfl, h2, _⟩ := r
    exact .fDict (w.sub _ _ h2)
  | dcT _ _ => cases e
  | dcN _ _ => cases e
  | exm _ _ => cases e
  | ptp _ => cases e
  | mob _ _ _ => cases e
  | exc _ _ _ => cases e
structure IsiF (K : PySem.W.Frag) (mg : Str -> Option Value) (c : Str) (T : Value) (b : Bool) : Prop where
  ex : ∃ C, mg c = some (.ref C) /\ Cls K C /\ PySem.W.findIn K (.ref C) "__class__" = some (some (.builtin "object.__class__")) /\ PySem.W.specialIn K (.builtin "object.__class__") "__get__" = some (some (.builtin "getset_descriptor.__get__")) /\
    PySem.W.takesIn K (.builtin "object.__class__") = some true /\ PySem.W.mroIn K C (.type "object") = some true /\ PySem.W.kitOne K (.ref C) T = some b
theorem tyx_obj {F H : Hp} {s : DS} {c : Str} {d : D} {v : V} {T : Value} {b : Bool} (w : Wd dl F H s) (h : IsiF X.K X.mg c T b) (hc : isC c d = true) (r : Rep X.K X.mg dl F d v) : ∃ C, TyX X.K H v (.ref C) /\ PySem.W.kitOne X.K (.ref C) T = some b := by
  obtain ⟨C, h1, h2, h3, h4, h5, h6, h7⟩ := h.ex
  obtain ⟨a, dx, fs, rfl, ha, _⟩ := obj_at h1 w.sub hc r
  exact ⟨C, .base (.ins ha h2 h3 h4 h5 h6), h7⟩
def isiD (cs : List (Str × Bool)) (ans : String -> Option Bool) : D -> Option D
  | .obj c _ _ => (cs.lookup c).map .bl
  | d => (tyN d).bind fun t => (ans t).map .bl
theorem de_isi {T : Value} {cv : V} {c2 : Expr} {cs : List (Str × Bool)} {ans : String -> Option Bool} (hg : Gl X "isinstance") (hm : X.mg "isinstance" = none) (hT : PE X c2 (tC cv)) (hcv : ClsV cv T) (hcs : ∀ c b, cs.lookup c = some b -> IsiF X.K X.mg c T b) (hans : ∀ t b, ans t = some b -> PySem.W.kitOne X.K (.type t) T = some b) (he : DE X dl W e fe)
    (hs1 : starEach [e, c2] X.env = (false, eval e X.env) :: starEach [c2] X.env := by rfl) (hs2 : starEach [c2] X.env = (false, eval c2 X.env) :: starEach [] X.env := by rfl) (hpl : (backTo pos (starEach [c2] X.env)).any (·.1) = false := by rfl) :
    DE X dl W (.Call (.Name "isinstance" p) [e, c2] [] pos) (g1 (isiD cs ans) fe) := by
  refine PE.of (pe_callB call_isi hg hm (by decide +kernel) (pa_cons he (pa_cons hT pa_nil hs2) hs1) (by decide) (by decide) hs1 hpl) fun sg H Q q => ?_
  obtain ⟨F, q⟩ := q
  refine ⟨F, q.bnd.imp fun d F1 H1 ⟨st1, q1⟩ v rv => ?_⟩
  obtain ⟨y, s, e1, w, q2⟩ := q1.op
  cases hd : tyN d with
  | some t =>
    have e2 : ((ans t).map D.bl) = some y := by
      cases d <;> first | (simpa [isiD, hd] using e1) | (simp [tyN] at hd)
    cases ha : ans t with
    | none => rw [ha] at e2; cases e2
    | some b =>
      rw [ha] at e2
      cases e2
      exact ⟨v, cv, .type t, T, b, rfl, hcv, tyx_of w rv hd, hans t b ha, q2 F1 H1 Step.refl w _ rfl⟩
  | none =>
    cases d with
    | obj c ns xs =>
      have e2 : ((cs.lookup c).map D.bl) = some y := e1
      cases hc : cs.lookup c with
      | none => rw [hc] at e2; cases e2
      | some b =>
        rw [hc] at e2
        cases e2
        obtain ⟨C, t1, t2⟩ := tyx_obj w (hcs c b hc) (by simp [isC]) rv
        exact ⟨v, cv, .ref C, T, b, rfl, hcv, t1, t2, q2 F1 H1 Step.refl w _ rfl⟩
    | dcT _ _ => cases e1
    | dcN _ _ => cases e1
    | exm _ _ => cases e1
    | ptp _ => cases e1
    | mob _ _ _ => cases e1
    | exc _ _ _ => cases e1
    | _ => cases hd
end
end
end EK
namespace PySem.W
open PySem PySem.Calls PyProof.Rows
section
end
end PySem.W
namespace EK
open PySem PySem.Spec PyProof.Rows L2
section
section
variable {mg : Str -> Option Value} {K : PySem.W.Frag} {wd : World} {dl dl' : Dr wd K mg} {W : XK'} {F H : Hp}
theorem ObOk.toDl {s : DS} (h : dl'.a = dl.a /\ dl'.w = dl.w /\ dl'.c = dl.c /\ dl'.tabs = dl.tabs /\ dl'.ms = dl.ms /\ dl'.act = dl.act) (o : ObOk dl F H s) : ObOk dl' F H s := by
  obtain ⟨h1, h2, h3, h4, h5, h6⟩ := h
  refine ⟨fun z => by rw [h6]; exact o.1 z, fun ac => ?_⟩
  have o := o.2 (by rw [<- h6]; exact ac)
  refine ⟨by rw [h5]; exact o.len, fun i a dx c ns xs hq e1 e2 => ?_, by rw [h5]; exact o.nd⟩
  obtain ⟨C, us, q1, q2, q3, q4, q5, q6⟩ := o.at_ i a dx c ns xs hq (by rw [<- h5]; exact e1) e2
  exact ⟨C, us, q1, q2, q3, q4, q5, RepL.dl ⟨h1.symm, h5.symm⟩ _ _ q6⟩
theorem Wd.toDl {s : DS} (h : dl'.a = dl.a /\ dl'.w = dl.w /\ dl'.c = dl.c /\ dl'.tabs = dl.tabs /\ dl'.ms = dl.ms /\ dl'.act = dl.act) (w : Wd dl F H s) : Wd dl' F H s := by
  have hh := h
  obtain ⟨h1, h2, h3, h4, h5, h6⟩ := h
  refine ⟨w.sub, fun b hb => w.off b ?_, ?_, by rw [h4]; exact w.tb, w.ob.toDl hh⟩
  · unfold Dr.has at hb ⊢
    rw [h1, h2, h3, h4, h5, h6] at hb
    exact hb
  · obtain ⟨d1, d2, d3, d4⟩ := w.dr
    unfold DrawOk
    rw [h1, h2, h3]
    exact ⟨d1, d2, d3, d4⟩
theorem Step.toDl {F' H' : Hp} (h : dl'.a = dl.a /\ dl'.w = dl.w /\ dl'.c = dl.c /\ dl'.tabs = dl.tabs /\ dl'.ms = dl.ms /\ dl'.act = dl.act) (w : Step dl F H F' H') : Step dl' F H F' H' := by
  obtain ⟨h1, h2, h3, h4, h5, h6⟩ := h
  refine ⟨w.fs, fun b o nb e => w.hs b o (fun z => nb ?_) e, w.nw, w.al⟩
  unfold Dr.has at z ⊢
  rw [h1, h2, h3, h4, h5, h6]
  exact z
end
def spI (K : PySem.W.Frag) (mg : Str -> Option Value) (w : World) (c : Str) (n : Nat) (m : List D -> M (List Str × List D)) : Sp := fun vs H Q E => ∃ (dl : Dr w K mg) (F H1 : Hp) (ds : List D) (ws : List V) (s : DS) (C : Addr),
  vs = .ref dl.o :: ws /\ ws.length = n /\ mg c = some (.ref C) /\ Wd dl F H1 s /\ H1 dl.o = none /\ H1 dl.ox = none /\ dl.ox ≠ dl.o /\ H = upd (upd H1 dl.ox (.own dl.o)) dl.o (.ins C dl.ox []) /\ RepL K mg dl F ds ws /\
    Go mg K dl E F H1 (m ds s) fun r _ F' H' => ∀ us, H' dl.o = some (.ins C dl.ox (r.1.zip us)) -> H' dl.ox = some (.own dl.o) -> F' dl.o = none -> F' dl.ox = none -> r.1.length = us.length -> RepL K mg dl F' r.2 us -> Q .non H'
def startI (c : Str) (n : Nat) (ds : List D) : Sls := some (.ini c [] []) :: startG (n - 1) ds
def runI (c : Str) (n : Nat) (b : SS) (ds : List D) : M (List Str × List D) := bnd (b (startI c n ds)) fun o => match o with
  | .next G => (match (G[0]? : Option (Option Sl)) with
    | some (some (.ini c' ns xs)) => if c' = c then ret (ns, xs) else fail
    | _ => fail)
  | _ => fail
theorem start_cons {N : List Str} {v : V} {vs : List V} (h : N.length >= 1) : L2.start N (v :: vs) = some v :: L2.start N.tail vs := by
  unfold L2.start
  rw [List.map_cons, List.cons_append, List.length_cons, List.length_tail]
  congr 3
  omega
theorem sim_startI {K : PySem.W.Frag} {mg : Str -> Option Value} {wd : World} {dl : Dr wd K mg} {F H1 : Hp} {s : DS} {N : List Str} {ds : List D} {ws : List V} {c : Str} {C : Addr} (hN : N.length >= 1) (w : Wd dl F H1 s) (h1 : H1 dl.o = none) (h2 : H1 dl.ox = none) (ne : dl.ox ≠ dl.o) (hc : mg c = some (.ref C)) (r : RepL K mg dl F ds ws) :
    Sim K mg dl F H1 F (upd (upd H1 dl.ox (.own dl.o)) dl.o (.ins C dl.ox [])) (L2.start N (.ref dl.o :: ws)) (startI c N.length ds) := by
  have base : Sim K mg dl F (upd (upd H1 dl.ox (.own dl.o)) dl.o (.ins C dl.ox [])) F (upd (upd H1 dl.ox (.own dl.o)) dl.o (.ins C dl.ox [])) (L2.start N.tail ws) (startG N.tail.length ds) := sim_start r
  rw [start_cons hN]
  have el : N.tail.length = N.length - 1 := List.length_tail
  have hox : (upd (upd H1 dl.ox (.own dl.o)) dl.o (.ins C dl.ox [])) dl.ox = some (.own dl.o) := by rw [upd_ne ne, upd_same]
  refine ⟨?_, fun i sl e => ?_, fun i j sl t e1 e2 o1 o2 e3 => ?_, ⟨fun _ _ h => h, fun b o nb e => ?_, fun b o e => .inl e, fun b e => ?_⟩, Trs.no fun i t e => by
    cases i with
    | zero =>
      unfold startI at e
      simp only [List.getElem?_cons_zero, Option.some.injEq] at e
      cases e
    | succ i =>
      unfold startI at e
      simp only [List.getElem?_cons_succ] at e
      unfold startG at e
      by_cases q : i < ds.length
      · rw [List.getElem?_append_left (by simpa using q), List.getElem?_map] at e
        cases e2 : ds[i]? with
        | none => rw [e2] at e; cases e
        | some d => rw [e2] at e; cases e
      · rw [List.getElem?_append_right (by simpa using q), List.getElem?_replicate] at e
        split at e <;> cases e⟩
  · unfold startI
    rw [List.length_cons, List.length_cons, <- el, base.len]
  · cases i with
    | zero =>
      unfold startI at e
      simp only [List.getElem?_cons_zero, Option.some.injEq] at e
      subst e
      exact ⟨.ref dl.o, rfl, dl.o, dl.ox, C, [], rfl, hc, upd_same, hox, w.fnone h1, w.fnone h2, h1, h2, w.na h1, w.na h2, rfl, ⟨Nat.zero_le _, rfl, rfl⟩, rfl⟩
    | succ i =>
      unfold startI at e
      simp only [List.getElem?_cons_succ] at e
      rw [<- el] at e
      obtain ⟨v, k1, k2⟩ := base.sl i sl e
      refine ⟨v, by simpa using k1, ?_⟩
      cases sl with
      | fz d => exact k2
      | own xs =>
        exfalso
        obtain ⟨a, us, _, m2, m3, m4, _⟩ := k2
        rw [m4] at m2; cases m2
      | ini cc ns xs =>
        exfalso
        obtain ⟨a, dx, C', us, _, _, m3, m4, m5, m6, m7, _⟩ := k2
        rw [m7] at m3; cases m3
      | ownX kk xs =>
        exfalso
        obtain ⟨a, us, _, m2, m3, m4, _⟩ := k2
        rw [m4] at m2; cases m2
      | ownP pp kk xs =>
        exfalso
        obtain ⟨a, us, _, m2, m3, m4, _⟩ := k2
        rw [m4] at m2; cases m2
      | tree _ => trivial
  · have z : ∀ (i : Nat) (sl : Sl), (startI c N.length ds)[i]? = some (some sl) -> sl.isOwn = true -> i = 0 := fun i sl e o => by
      cases i with
      | zero => rfl
      | succ i =>
        exfalso
        unfold startI at e
        simp only [List.getElem?_cons_succ] at e
        rw [<- el] at e
        obtain ⟨v, k1, k2⟩ := base.sl i sl e
        cases sl with
        | fz d => cases o
        | own xs =>
          obtain ⟨a, us, _, m2, m3, m4, _⟩ := k2
          rw [m4] at m2; cases m2
        | ini cc ns xs =>
          obtain ⟨a, dx, C', us, _, _, m3, m4, m5, m6, m7, _⟩ := k2
          rw [m7] at m3; cases m3
        | ownX kk xs =>
          obtain ⟨a, us, _, m2, m3, m4, _⟩ := k2
          rw [m4] at m2; cases m2
        | ownP pp kk xs =>
          obtain ⟨a, us, _, m2, m3, m4, _⟩ := k2
          rw [m4] at m2; cases m2
        | tree _ => cases o
    rw [z i sl e1 o1, z j t e2 o2]
  · have n1 : b ≠ dl.o := ne_of_none e h1
    have n2 : b ≠ dl.ox := ne_of_none e h2
    rw [upd_ne n1, upd_ne n2]; exact e
  · by_cases n1 : b = dl.o
    · rw [n1]; exact h1
    · rw [upd_ne n1] at e
      by_cases n2 : b = dl.ox
      · rw [n2]; exact h2
      · rw [upd_ne n2] at e; exact e
theorem ifn_of {P : Program} {w : World} {K : PySem.W.Frag} {mg : Str -> Option Value} {base : Heap} {x qual c : Str} {st : Stmt} {f : Addr} {fd : FuncData} {N ps : List Str} {k n : Nat} {b : SS} {dvs : List V} {kws : List (Str × V)} (F : FunD K x qual (defArgs st) (defBody st) (defScope st) dvs kws f fd) (S : FnScope N ps (defScope st)) (hn : ps.length = n + 1)
    (hb : ∀ (cdv : Value) (A : Around) (outer : List Env) (s : Shared) (H : Hp) (E : XK) (dl : Dr w K mg), Room k (cxOf (L2.CX P w) P w K mg base N qual (defScope st) f cdv A outer s H E).A ->
      Takes (cxOf (L2.CX P w) P w K mg base N qual (defScope st) f cdv A outer s H E) (fun cls d _ H => E cls d H) ->
      PassesOwn (model P w) (cxOf (L2.CX P w) P w K mg base N qual (defScope st) f cdv A outer s H E).A (cxOf (L2.CX P w) P w K mg base N qual (defScope st) f cdv A outer s H E).env (cxOf (L2.CX P w) P w K mg base N qual (defScope st) f cdv A outer s H E).xe ->
      DSs (cxOf (L2.CX P w) P w K mg base N qual (defScope st) f cdv A outer s H E) dl (fun cls d _ H => E cls d H) (defBody st) b) :
    FnOk P w K mg base (L2.CX P w) (k + 1) f fd ps (spI K mg w c n (runI c N.length b)) := by
  have hN : N.length >= 1 := by
    have := congrArg List.length S.pre
    rw [List.length_take, hn] at this
    omega
  refine F.ok S (fun vs H Q E h => ?_) fun cdv A outer s H vs Q E hr h => ?_
  · obtain ⟨dl, Fz, H1, ds, ws, s0, C, rfl, hl, _⟩ := h
    rw [List.length_cons, hl, hn]
  obtain ⟨dl, Fz, H1, ds, ws, s0, C, rfl, hl, hc, wd, n1, n2, ne, rfl, rp, go⟩ := h
  refine ⟨_, hb cdv A outer s _ E dl hr (takes_of rfl rfl rfl rfl) (passes_of rfl), ?_⟩
  have w2 : Wd dl Fz (upd (upd H1 dl.ox (.own dl.o)) dl.o (.ins C dl.ox [])) s0 := (wd.newO n2).newO (by rw [upd_ne (Ne.symm ne)]; exact n1)
  refine ⟨Fz, H1, Fz, startI c N.length ds, s0, w2, sim_startI hN wd n1 n2 ne hc rp, ?_⟩
  unfold runI bnd at go
  cases e : b (startI c N.length ds) s0 with
  | none => rw [e] at go; exact go
  | some p =>
    obtain ⟨r, s1⟩ := p
    rw [e] at go
    cases r with
    | err x => exact fun F' H' sg' cls d st w xr => go F' H' cls d st w xr
    | ok o =>
      cases o with
      | brk G => exact go.elim
      | cont G => exact go.elim
      | ret d => exact go.elim
      | next G =>
        intro F' H' sg' sm w S
        cases eg : G[0]? with
        | none => simp only [eg] at go; exact go.elim
        | some o =>
          cases o with
          | none => simp only [eg] at go; exact go.elim
          | some sl =>
            cases sl with
            | fz _ => simp only [eg] at go; exact go.elim
            | own _ => simp only [eg] at go; exact go.elim
            | ownX _ _ => simp only [eg] at go; exact go.elim
            | ownP pp _ _ => simp only [eg] at go; exact go.elim
            | tree _ => simp only [eg] at go; exact go.elim
            | ini c' ns xs =>
              simp only [eg] at go
              by_cases ec : c' = c
              case neg => rw [if_neg ec] at go; exact go.elim
              rw [if_pos ec] at go
              subst ec
              obtain ⟨v, k1, a, dx, C', us, rfl, m2, m3, m4, m5, m6, m7, m8, m9, m10, m11, ⟨m12, rfl, rfl⟩, m13⟩ := S.sl 0 _ eg
              have m2 : mg c' = some (.ref C') := m2
              rw [hc] at m2
              cases m2
              exact go F' H' S.st w us m3 m4 m5 m6 m11 m13
section
variable {X : Cx} {dl : Dr X.w X.K X.mg} {W : WX} {pos pos' p2 : Pos} {F0 H0 F H : Hp} {E : Ends} {e : Expr} {f : SE}
def sFldI (nm : Str) (f : SE) : SS := fun G => match (G[0]? : Option (Option Sl)) with
  | some (some (.ini c ns xs)) => bnd (f G) fun d => if ns.contains nm = false /\ ns.length < 900 then ret (.next (G.set 0 (some (.ini c (ns ++ [nm]) (xs ++ [d]))))) else fail
  | _ => fail
theorem putF_new {nm : Str} {v : V} : ∀ {ns : List Str} {vs : List V}, ns.contains nm = false -> ns.length = vs.length -> putF nm v (ns.zip vs) = (ns ++ [nm]).zip (vs ++ [v])
  | [], [], _, _ => rfl
  | n :: ns, u :: vs, h, hl => by
    rw [List.contains_cons, Bool.or_eq_false_iff] at h
    rw [List.zip_cons_cons]
    unfold putF
    have ne : n ≠ nm := fun z => by
      subst z
      simp at h
    rw [if_neg ne, putF_new h.2 (by simpa using hl)]
    rfl
  | [], _ :: _, _, hl => by simp at hl
  | _ :: _, [], _, hl => by simp at hl
theorem Sim.setIni {sg : L2.St} {G : Sls} {c : Str} {C : Addr} {ns ns' : List Str} {xs xs' : List D} {us' : List V} (S : Sim X.K X.mg dl F0 H0 F H sg G) (ei : G[0]? = some (some (.ini c ns xs))) (hc : X.mg c = some (.ref C)) (h9 : ns'.length <= 900) (hl : ns'.length = us'.length) (h8 : RepL X.K X.mg dl F xs' us') :
    Sim X.K X.mg dl F0 H0 F (upd H dl.o (.ins C dl.ox (ns'.zip us'))) sg (G.set 0 (some (.ini c ns' xs'))) := by
  have hil := get_lt ei
  obtain ⟨v, k1, a, dx, C', us, rfl, m2, m3, m4, m5, m6, m7, m8, m9, m10, m11, ⟨m12, rfl, rfl⟩, m13⟩ := S.sl 0 _ ei
  have nex : dl.ox ≠ dl.o := fun z => by rw [z, m3] at m4; cases m4
  refine ⟨by rw [List.length_set]; exact S.len, fun j t ej => ?_, fun j k t u ej ek o1 o2 e3 => ?_, ⟨S.st.fs, fun b o nb e => ?_, S.st.nw, fun b e => ?_⟩, S.tr.at ei rfl (fun _ z => nomatch z) k1 (fun _ _ z => z) (fun b hb => upd_ne hb) (fun _ _ => rfl)⟩
  · by_cases hij : 0 = j
    · subst hij
      rw [List.getElem?_set_self hil] at ej
      cases ej
      exact ⟨.ref dl.o, k1, dl.o, dl.ox, C, us', rfl, hc, upd_same, by rw [upd_ne nex]; exact m4, m5, m6, m7, m8, m9, m10, hl, ⟨h9, rfl, rfl⟩, h8⟩
    · rw [List.getElem?_set_ne hij] at ej
      obtain ⟨u, q1, q2⟩ := S.sl j t ej
      refine ⟨u, q1, ?_⟩
      have nea : ∀ b, t.isOwn = true -> u = .ref b -> b ≠ dl.o := fun b ho eu z => by
        subst z; subst eu
        exact hij (S.dis 0 j _ t ei ej rfl ho (k1.trans q1.symm))
      cases t with
      | fz d => exact q2
      | own ys =>
        obtain ⟨b, ws, rfl, r2, r3, r4, r5, r6, r7⟩ := q2
        exact ⟨b, ws, rfl, by rw [upd_ne (nea b rfl rfl)]; exact r2, r3, r4, r5, r6, r7⟩
      | ownX kk ys =>
        obtain ⟨b, ws, rfl, r2, r3, r4, r5, r6, r7, r8⟩ := q2
        exact ⟨b, ws, rfl, by rw [upd_ne (nea b rfl rfl)]; exact r2, r3, r4, r5, r6, r7, r8⟩
      | ownP pp kk ys =>
        obtain ⟨b, ws, rfl, r2, r3, r4, r5, r6, r7, r8⟩ := q2
        exact ⟨b, ws, rfl, by rw [upd_ne (nea b rfl rfl)]; exact r2, r3, r4, r5, r6, r7, r8⟩
      | tree _ => trivial
      | ini cc n2 ys =>
        exfalso
        obtain ⟨b, dx', C2, ws, rfl, r2, r3, r4, r5, r6, r7, r8, r9, r10, r11, ⟨_, rb, _⟩, r13⟩ := q2
        exact nea b rfl rfl rb
  · have nz : ∀ m (t : Sl), (G.set 0 (some (.ini c ns' xs')))[m]? = some (some t) -> t.isOwn = true -> ∃ t' : Sl, G[m]? = some (some t') /\ t'.isOwn = true := fun m t e o => by
      by_cases z : 0 = m
      · subst z
        exact ⟨_, ei, rfl⟩
      · rw [List.getElem?_set_ne z] at e
        exact ⟨t, e, o⟩
    obtain ⟨t', a1, a2⟩ := nz j t ej o1
    obtain ⟨u', b1, b2⟩ := nz k u ek o2
    exact S.dis j k t' u' a1 b1 a2 b2 e3
  · rw [upd_ne (ne_of_none e m7)]; exact S.st.hs b o nb e
  · by_cases z : b = dl.o
    · subst z; exact m7
    · rw [upd_ne z] at e; exact S.st.al b e
theorem ds_fldI {c nm x : Str} (h : FldF X.K X.mg c nm) (hv : PE X (.Name x p2) (tVar 0)) (he : DE X dl W e f) (hs : swapsWith e (some (.Attribute (.Name x p2) nm pos')) pos.line X.env = pure false := by rfl) (hcc : ∀ G : Sls, True := by intros; trivial) :
    DSt X dl W (.Assign [.Attribute (.Name x p2) nm pos'] e pos) (fun G => match (G[0]? : Option (Option Sl)) with
      | some (some (.ini c' _ _)) => if c' = c then sFldI nm f G else fail
      | _ => fail) := by
  obtain ⟨C, h1, h2, h3⟩ := h
  refine PS.of (ps_fld hv he hs) fun E sg H q => ?_
  obtain ⟨F0, H0, F, G, s, w, S, g⟩ := q
  cases ei : G[0]? with
  | none => simp only [ei] at g; exact g.elim
  | some o =>
    cases o with
    | none => simp only [ei] at g; exact g.elim
    | some sl =>
      cases sl with
      | fz _ => simp only [ei] at g; exact g.elim
      | own _ => simp only [ei] at g; exact g.elim
      | ownX _ _ => simp only [ei] at g; exact g.elim
      | ownP pp _ _ => simp only [ei] at g; exact g.elim
      | tree _ => simp only [ei] at g; exact g.elim
      | ini c' ns xs =>
        simp only [ei] at g
        by_cases ec : c' = c
        case neg => rw [if_neg ec] at g; exact g.elim
        rw [if_pos ec] at g
        subst ec
        simp only [sFldI, ei] at g
        refine ⟨F, F0, H0, G, s, w, S, (g.ex (sg := sg) S.st).imp fun d s1 F1 H1 st1 w1 g1 v rv => ?_⟩
        have S1 := S.step st1
        obtain ⟨u, k1, a, dx, C', us, rfl, m2, m3, m4, m5, m6, m7, m8, m9, m10, m11, ⟨m12, rfl, rfl⟩, m13⟩ := S1.sl 0 _ ei
        rw [h1] at m2
        cases m2
        by_cases hl : ns.contains nm = false /\ ns.length < 900
        case neg => rw [if_neg hl] at g1; exact g1.elim
        rw [if_pos hl] at g1
        refine ⟨.ref dl.o, k1, dl.o, C, dl.ox, _, rfl, m3, h2, h3, ?_, ?_⟩
        · rw [List.length_zip]
          omega
        rw [putF_new hl.1 m11]
        exact g1 F1 _ sg st1.fs (w1.setO m5 m9) (S1.setIni ei h1 (by rw [List.length_append]; simp; omega) (by simp; omega) (m13.append ⟨v, [], rfl, rv, rfl⟩))
end
structure MkF (P : Program) (w : World) (K : PySem.W.Frag) (mg : Str -> Option Value) (base : Heap) (c : Str) (k n : Nat) (m : List D -> M (List Str × List D)) : Prop where
  ex : ∃ (C g : Addr) (fd : FuncData) (ps : List Str), mg c = some (.ref C) /\ Mk K C g /\ ps.length = n + 1 /\ Binds K fd ps [] /\ FnOk P w K mg base (L2.CX P w) k g fd ps (spI K mg w c n m)
section
variable {X : Cx} {dl : Dr X.w X.K X.mg} {W : WX} {pos p : Pos} {e : Expr} {es : List Expr} {ra : SA}
def gMake (c : Str) (n : Nat) (m : List D -> M (List Str × List D)) (ra : SA) : SE := fun G => bnd (ra G) fun ds => if ds.length = n then bnd (m ds) fun r => ret (.obj c r.1 r.2) else fail
theorem de_make {c : Str} {k n : Nat} {m : List D -> M (List Str × List D)} (h : MkF X.prog X.w X.K X.mg X.base c k n m) (hr : Room (k + 1) X.A) (tk : Takes X W) (hW : ∀ cl d sg sg' H, W cl d sg H -> W cl d sg' H) (ha : DA X dl W (e :: es) ra) (hg : Gl X c := by rfl)
    (hdb : (c == ("__debug__" : Str)) = false := by decide) (he : starEach (e :: es) X.env = (false, eval e X.env) :: starEach es X.env := by rfl) (hpl : (backTo pos (starEach es X.env)).any (·.1) = false := by rfl) :
    DE X dl W (.Call (.Name c p) (e :: es) [] pos) (gMake c n m ra) := by
  obtain ⟨C, g, fd, ps, h1, h2, h3, h4, h5⟩ := h.ex
  refine PE.of (pe_make (E := fun cl d H => ∀ sg, W cl d sg H) h2 h5 hr hg h1 h4 .nil (passes_call tk fun cl d sg H z => z sg) ha hdb he hpl) fun sg H Q q => ?_
  obtain ⟨F, F0, H0, G, s, w, S, g⟩ := q
  refine ⟨F, F0, H0, G, s, w, S, g.bnd.imp fun ds s1 F1 H1 st1 w1 g1 vs rvs x dx nx ndx ne => ?_⟩
  by_cases hl : ds.length = n
  case neg => rw [if_neg hl] at g1; exact g1.elim
  rw [if_pos hl] at g1
  have hd : (Dr.mk (wd := X.w) (K := X.K) (mg := X.mg) dl.a dl.w dl.c x dx dl.tabs dl.ms dl.act).a = dl.a /\ (Dr.mk (wd := X.w) (K := X.K) (mg := X.mg) dl.a dl.w dl.c x dx dl.tabs dl.ms dl.act).w = dl.w /\ (Dr.mk (wd := X.w) (K := X.K) (mg := X.mg) dl.a dl.w dl.c x dx dl.tabs dl.ms dl.act).c = dl.c /\ (Dr.mk (wd := X.w) (K := X.K) (mg := X.mg) dl.a dl.w dl.c x dx dl.tabs dl.ms dl.act).tabs = dl.tabs /\ (Dr.mk (wd := X.w) (K := X.K) (mg := X.mg) dl.a dl.w dl.c x dx dl.tabs dl.ms dl.act).ms = dl.ms /\ (Dr.mk (wd := X.w) (K := X.K) (mg := X.mg) dl.a dl.w dl.c x dx dl.tabs dl.ms dl.act).act = dl.act := ⟨rfl, rfl, rfl, rfl, rfl, rfl⟩
  have hd' : dl.a = (Dr.mk (wd := X.w) (K := X.K) (mg := X.mg) dl.a dl.w dl.c x dx dl.tabs dl.ms dl.act).a /\ dl.w = (Dr.mk (wd := X.w) (K := X.K) (mg := X.mg) dl.a dl.w dl.c x dx dl.tabs dl.ms dl.act).w /\ dl.c = (Dr.mk (wd := X.w) (K := X.K) (mg := X.mg) dl.a dl.w dl.c x dx dl.tabs dl.ms dl.act).c /\ dl.tabs = (Dr.mk (wd := X.w) (K := X.K) (mg := X.mg) dl.a dl.w dl.c x dx dl.tabs dl.ms dl.act).tabs /\ dl.ms = (Dr.mk (wd := X.w) (K := X.K) (mg := X.mg) dl.a dl.w dl.c x dx dl.tabs dl.ms dl.act).ms /\ dl.act = (Dr.mk (wd := X.w) (K := X.K) (mg := X.mg) dl.a dl.w dl.c x dx dl.tabs dl.ms dl.act).act := ⟨rfl, rfl, rfl, rfl, rfl, rfl⟩
  refine ⟨Dr.mk (wd := X.w) (K := X.K) (mg := X.mg) dl.a dl.w dl.c x dx dl.tabs dl.ms dl.act, F1, H1, ds, vs, s1, C, by rw [List.append_nil], by rw [<- rvs.length, hl], h1, w1.toDl hd, nx, ndx, ne, rfl, RepL.dl ⟨hd'.1, hd'.2.2.2.2.1⟩ _ _ rvs, ?_⟩
  have g2 := Go.at (F1 := F1) (H1 := H1) Step.refl g1
  cases er : m ds s1 with
  | none => rw [er] at g2; exact g2
  | some pr =>
    obtain ⟨r, s2⟩ := pr
    rw [er] at g2
    cases r with
    | err xx =>
      intro F' H' cl d st wd xr sg'
      refine hW cl d sg sg' H' (g2 F' H' cl d (st.toDl hd') (wd.toDl hd') ?_)
      obtain ⟨C0, x1, x2, x3⟩ := xr
      refine ⟨C0, x1, x2, ?_⟩
      rcases x3 with x3 | ⟨x3, a, ws, y1, y2, y3, y4⟩
      · exact .inl x3
      · exact .inr ⟨x3, a, ws, y1, y2, y3, RepL.dl ⟨hd.1, hd.2.2.2.2.1⟩ _ _ y4⟩
    | ok r =>
      intro F' H' st wd us o1 o2 f1 f2 hlen rp
      have st' : Step dl F1 H1 F' H' := st.toDl hd'
      have wd' : Wd dl F' H' s2 := wd.toDl hd'
      have g3 := g2 F' H' st' wd'
      have o1 : H' x = some (.ins C dx (r.1.zip us)) := o1
      have o2 : H' dx = some (.own x) := o2
      have f1 : F' x = none := f1
      have f2 : F' dx = none := f2
      have nhx : ¬ dl.has x := w1.na nx
      have nhdx : ¬ dl.has dx := w1.na ndx
      have f1' : (upd F' dx (.own x)) x = none := by rw [upd_ne (Ne.symm ne)]; exact f1
      have w3 := (wd'.freeze o2 f2 nhdx).freeze o1 f1' nhx
      have sm1 : Same F' (upd F' dx (.own x)) := Same.updN f2
      have sm2 : Same (upd F' dx (.own x)) (upd (upd F' dx (.own x)) x (.ins C dx (r.1.zip us))) := Same.updN f1'
      have smA : Same F' (upd (upd F' dx (.own x)) x (.ins C dx (r.1.zip us))) := fun b o e => sm2 b o (sm1 b o e)
      refine ⟨rfl, g3 _ H' ⟨fun b o e => smA b o (st'.fs b o e), st'.hs, fun b o e => ?_, st'.al⟩ w3 _ ⟨x, dx, C, us, rfl, h1, upd_same, by rw [upd_ne ne]; exact upd_same, hlen, RepL.mono smA _ _ (RepL.dl ⟨hd.1, hd.2.2.2.2.1⟩ _ _ rp)⟩⟩
      by_cases z1 : b = x
      · exact .inr (by rw [z1]; exact nx)
      · rw [upd_ne z1] at e
        by_cases z2 : b = dx
        · exact .inr (by rw [z2]; exact ndx)
        · rw [upd_ne z2] at e; exact st'.nw b o e
end
end
section
section
variable (X : Cx) (dl : Dr X.w X.K X.mg)
def rCM (g : List D -> M D) : List V -> Hp -> VK -> Prop := fun xs H Q => ∃ (F : Hp) (s : DS) (ds : List D), Wd dl F H s /\ RepL X.K X.mg dl F ds xs /\ Go X.mg X.K dl (fun _ _ _ => False) F H (g ds s) fun d _ F' H' => ∀ v, Rep X.K X.mg dl F' d v -> Q v H'
end
def g2M (g : D -> D -> M D) (fa fb : SE) : SE := fun G => bnd (fa G) fun a => bnd (fb G) fun b => noErr (g a b)
def g1M (g : D -> M D) (fa : SE) : SE := fun G => bnd (fa G) fun a => noErr (g a)
def gCM (g : List D -> M D) (fa : SA) : SE := fun G => bnd (fa G) fun ds => noErr (g ds)
section
variable {X : Cx} {dl : Dr X.w X.K X.mg} {W : WX} {a b e : Expr} {fa fb : SE} {pos p : Pos} {g g' : D -> D -> M D}
structure OpF (P : Program) (w : World) (K : PySem.W.Frag) (mg : Str -> Option Value) (base : Heap) (c m : Str) (k n : Nat) (fm : List D -> M D) : Prop where
  ex : ∃ (C g : Addr) (fd : FuncData) (ps : List Str), mg c = some (.ref C) /\ Cls K C /\ PySem.W.findIn K (.ref C) m = some (some (.ref g)) /\ PySem.W.isFn K (.ref g) = true /\ PySem.W.selfFirst K C = true /\ ps.length = n + 1 /\ Binds K fd ps [] /\ FnOk P w K mg base (L2.CX P w) k g fd ps (spD K mg w (n + 1) fm)
theorem inst_of {pins : List (Addr × Obj)} {sg : L2.St} {H : Hp} {s : Shared} {x C dx : Addr} {fs : List (Str × V)} (I : Inv X pins sg H s) (ea : H x = some (.ins C dx fs)) : ∃ od, PySem.W.InstAt s.heap x (PySem.W.instObj C dx) C od := by
  obtain ⟨mA, O, _⟩ := ins_get I.hok ea
  obtain ⟨od, J, _⟩ := O.look
  exact ⟨_, J⟩
def both (c : Str) (x y : D) : Bool := isC c x && isC c y
def opC (c : Str) (fm : List D -> M D) : D -> D -> M D := fun x y => if both c x y then fm [x, y] else mobK ((isC c x || isM c x) && (isC c y || isM c y)) (fm [x, y])
def negM (m : M D) : M D := bnd m fun d => ofO ((asB d).map fun k => .bl (!k))
def unC (c : Str) (fm : List D -> M D) : D -> M D := fun x => if isC c x then fm [x] else fail
end
end
section
section
variable {prog : Program} {w : World} {A : Around} {E : Value -> Shared -> Prop} {s : Shared}
theorem collect_tup {l : Addr} {vs : List Value} {Q : List Value -> Shared -> Prop} (hl : s.heap.IsTuple l vs.toArray)
    (h : Q vs { s with heap := (s.heap.push (seqObj "list" #[] 0)).update s.heap.objs.size (Obj.mapSeq (· ++ vs.toArray)) }) (hsz : vs.length <= sizeLine) :
    wpAny (model prog w) A (collect (.ref l)) Q E s := by
  obtain ⟨o, ho, hc, n, hd⟩ := id hl
  unfold collect
  refine wpAny_bind (wpAny_runValue (codeAny_builtin entry_proto_collect' ?_))
  show wpAny _ _ (do again (.builtin "list.__iadd__" ⟨[<- newList [], .ref l], []⟩)) _ _ s
  refine wpAny_bind (wpAny_newList (wpAny_pure ⟨Code.quiet_builtin _ (by decide +kernel), codeAny_builtin entry_list_iadd' ?_⟩))
  show wpAny _ _ (Builtin.List.listExtendWith (.ref s.heap.objs.size) (.ref l) (.ref s.heap.objs.size)) _ _ { s with heap := s.heap.push (seqObj "list" #[] 0) }
  unfold Builtin.List.listExtendWith
  have ho' : (s.heap.push (seqObj "list" #[] 0)).get? l = some o := Heap.get?_push_of_some _ ho
  refine wpAny_bind (wpAny_typeOf (T := "tuple") ⟨o, ho', hc⟩ ?_)
  have ht : (Value.type "tuple" == Value.type "tuple") = true := by rfl
  rw [if_pos (by rw [ht]; simp)]
  refine wpAny_bind (listItems_at ho' hd ?_)
  refine wpAny_bind (listItems_at (xs := #[]) (n := 0) (Heap.get?_push_size _ rfl) rfl ?_)
  rw [if_neg (by simp)]
  refine wpAny_bind (listUpdate_at (xs := #[]) (n := 0) (Heap.get?_push_size _ rfl) rfl ?_ (Nat.zero_le _) (by show (#[] ++ vs.toArray).size <= sizeLine + 1; simp only [Array.size_append, List.size_toArray, List.length_nil]; omega))
  refine wpAny_pure ?_
  show wpAny (model prog w) A (do
      let o <- load s.heap.objs.size
      match o.data with
      | .seq xs _ => pure xs.toList
      | _ => unsupported "internal:collect") Q E { s with heap := (s.heap.push (seqObj "list" #[] 0)).update s.heap.objs.size (Obj.mapSeq (· ++ vs.toArray)) }
  refine wpAny_bind (wpAny_load (get?_update_seq (Heap.get?_push_size _ rfl) _) ?_)
  show wpAny _ _ (pure ((#[] : Array Value) ++ vs.toArray).toList) Q E _
  rw [show ((#[] : Array Value) ++ vs.toArray).toList = vs by simp]
  exact wpAny_pure h
open PySem.W in
theorem sorted_of_coll {x : Value} {vs : List Value} {Q : Value -> Shared -> Prop} (hL : vs.length <= sizeLine)
    (hcoll : ∀ (A' : Around) (Q' : List Value -> Shared -> Prop) (E' : Value -> Shared -> Prop), Q' vs { s with heap := (s.heap.push (seqObj "list" #[] 0)).update s.heap.objs.size (Obj.mapSeq (· ++ vs.toArray)) } -> wpAny (model prog w) A' (collect x) Q' E' s)
    (body : ∀ E' : Value -> Shared -> Prop, wpAny (model prog w) A.in1.in1 (Builtin.«list.sort» ⟨[.ref (s.heap.objs.size + 1)], []⟩) (fun f s' => f = .done (.ret .none) /\ Q (.ref (s.heap.objs.size + 1)) s') E' { s with heap := copyHeap s.heap vs }) :
    wpAny (model prog w) A (call (.builtin "sorted") [x]) Q E s := by
  refine call_function_entry_kw kind_sorted plain_sorted entry_sorted (args_sorted1 _) ?_
  unfold Builtin.«sorted»
  refine wpAny_bind (m := checkCount "sorted" 1 1 _) (wpAny_pure ?_)
  refine wpAny_bind (hcoll _ _ _ ?_)
  refine wpAny_bind (wpAny_newList ?_ hL)
  have hsz : ((s.heap.push (seqObj "list" #[] 0)).update s.heap.objs.size (Obj.mapSeq (· ++ vs.toArray))).objs.size = s.heap.objs.size + 1 := by
    rw [Heap.size_update, size_push']
  show wpAny _ _ _ _ _ { s with heap := copyHeap s.heap vs }
  rw [hsz]
  refine wpAny_bind (wpAny_holding (wpAny_call_entry_kw slot_list_sort ⟨_, copyHeap_at s.heap vs, rfl⟩ entry_list_sort ?body (args_list_sort _)))
  case body =>
    show wpAny (model prog w) A.in1.in1 (Builtin.«list.sort» ⟨[.ref (s.heap.objs.size + 1)], []⟩) _ _ _
    refine wpAny_mono (body _) (fun f s' hf => ?_) fun _ _ e => e
    obtain ⟨rfl, hq⟩ := hf
    exact ⟨_, rfl, wpAny_pure ⟨_, rfl, hq⟩⟩
open PySem.W in
theorem sorted_coll_data {β : Type} {x : Value} {vs : List Value} {bs : List β} {enc : β -> PyData} {R : Value -> β -> Prop} {Q : Value -> Shared -> Prop} (e : EachIs R vs bs) (er : EachIs (fun v b => ∃ as, Reads s.heap v (enc b) as) vs bs) (hal : AllAlike (bs.map enc)) (hk : Sortable (bs.map enc)) (hL : bs.length <= sizeLine)
    (hcoll : ∀ (A' : Around) (Q' : List Value -> Shared -> Prop) (E' : Value -> Shared -> Prop), Q' vs { s with heap := (s.heap.push (seqObj "list" #[] 0)).update s.heap.objs.size (Obj.mapSeq (· ++ vs.toArray)) } -> wpAny (model prog w) A' (collect x) Q' E' s)
    (hu : ∀ b, b ∈ bs -> A.units + 2 + (enc b).depth < cLine) (h : ∀ out, out.length = bs.length -> EachIs R out (bs.mergeSort (dataLe false enc)) -> Q (.ref (s.heap.objs.size + 1)) { s with heap := sortedAll s.heap vs (List.toArray out) }) :
    wpAny (model prog w) A (call (.builtin "sorted") [x]) Q E s := by
  have er' : EachIs (fun v b => ∃ as, Reads (sortingHeap (copyHeap s.heap vs) (s.heap.objs.size + 1) vs) v (enc b) as) vs bs := er.mono fun _ _ ⟨as, r⟩ => ⟨as, PyProof.Rows.Reads.keeps (fun _ _ => sorting_copy_old) r⟩
  have S := SortsAt.data (prog := prog) (w := w) (A := A.in1.in1) (s := { s with heap := sortingHeap (copyHeap s.heap vs) (s.heap.objs.size + 1) vs }) (each_map (R := fun v d => ∃ as, Reads (sortingHeap (copyHeap s.heap vs) (s.heap.objs.size + 1) vs) v d as) enc er') hal hk (bound_map hu)
  have hL' : vs.length <= sizeLine := by rw [e.length]; exact hL
  exact sorted_of_coll hL' hcoll fun _ => list_sort_vals (s := { s with heap := copyHeap s.heap vs }) (copyHeap_at s.heap vs) S hL' ⟨rfl, h _ (by rw [sortVals_length false rfl]; exact e.length) (sortVals_data false e er' hal)⟩
end
def pD (d : D) : PyData := (toP d).getD .none
def tupNE : PyData -> Bool
  | .tuple (_ :: _) => true
  | _ => false
def notTN : PyData -> Bool
  | .tuple _ => false
  | .none => false
  | _ => true
def canSort (ds : List D) : Bool := ds.all (fun d => (toP d).isSome) && (ds.all (fun a => ds.all fun b => PySem.W.alike (pD a) (pD b)) && ((ds.all (fun d => tupNE (pD d)) || ds.all (fun d => notTN (pD d))) && ds.all fun d => decide ((pD d).depth <= 60)))
def sortL (ds : List D) : List D := ds.mergeSort (PySem.W.dataLe false pD)
def sortedD : List D -> Option D
  | [d] => (itemsTL d).bind fun ds => if canSort ds then some (.lst (sortL ds)) else none
  | _ => none
theorem sortedD_some {ds : List D} {r : D} (h : sortedD ds = some r) : ∃ d xs, ds = [d] /\ itemsTL d = some xs /\ canSort xs = true /\ r = .lst (sortL xs) := by
  unfold sortedD at h
  split at h
  · rename_i d
    cases e : itemsTL d with
    | none => rw [e] at h; cases h
    | some xs =>
      rw [e] at h
      simp only [Option.bind_some] at h
      split at h
      · rename_i hc
        cases h
        exact ⟨d, xs, rfl, e, hc, rfl⟩
      · cases h
  · cases h
theorem canSort_of {ds : List D} (h : canSort ds = true) : (∀ d ∈ ds, ∃ p, toP d = some p) /\ PySem.W.AllAlike (ds.map pD) /\ PySem.W.Sortable (ds.map pD) /\ ∀ d ∈ ds, (pD d).depth <= 60 := by
  unfold canSort at h
  obtain ⟨h1, h⟩ := Bool.and_eq_true_iff.mp h
  obtain ⟨h2, h⟩ := Bool.and_eq_true_iff.mp h
  obtain ⟨h3, h4⟩ := Bool.and_eq_true_iff.mp h
  rw [List.all_eq_true] at h1 h2 h4
  refine ⟨fun d hd => Option.isSome_iff_exists.mp (h1 d hd), fun a ha b hb => ?_, ?_, fun d hd => of_decide_eq_true (h4 d hd)⟩
  · obtain ⟨x, hx, rfl⟩ := List.mem_map.mp ha
    obtain ⟨y, hy, rfl⟩ := List.mem_map.mp hb
    have := h2 x hx
    rw [List.all_eq_true] at this
    exact this y hy
  · rcases Bool.or_eq_true_iff.mp h3 with h3 | h3
    · refine .inl fun p hp => ?_
      obtain ⟨x, hx, rfl⟩ := List.mem_map.mp hp
      rw [List.all_eq_true] at h3
      have := h3 x hx
      unfold tupNE at this
      split at this
      · rename_i a r e; exact ⟨a, r, e⟩
      · cases this
    · refine .inr fun p hp => ?_
      obtain ⟨x, hx, rfl⟩ := List.mem_map.mp hp
      rw [List.all_eq_true] at h3
      have := h3 x hx
      unfold notTN at this
      split at this
      · cases this
      · cases this
      · rename_i n1 n2
        exact ⟨n2, n1⟩
section
variable {X : Cx} {dl : Dr X.w X.K X.mg} {W : WX}
theorem each_rep {K : PySem.W.Frag} {mg : Str -> Option Value} {wd : World} {dl : Dr wd K mg} {F : Hp} : ∀ {ds : List D} {vs : List V} {us : List Value}, RepL K mg dl F ds vs -> Vals vs us -> PySem.W.EachIs (fun u d => ∃ v, RelV v u /\ Rep K mg dl F d v) us ds
  | [], vs, us, r, q => by
    cases (show vs = [] from r)
    cases q
    exact .nil
  | d :: ds, vs, us, r, q => by
    obtain ⟨v, vs', rfl, h1, h2⟩ := r
    cases q with
    | cons q1 q2 => exact .cons ⟨v, q1, h1⟩ (each_rep h2 q2)
theorem of_each_rep {K : PySem.W.Frag} {mg : Str -> Option Value} {wd : World} {dl : Dr wd K mg} {F : Hp} : ∀ {ds : List D} {us : List Value}, PySem.W.EachIs (fun u d => ∃ v, RelV v u /\ Rep K mg dl F d v) us ds -> ∃ vs, Vals vs us /\ RepL K mg dl F ds vs
  | _, _, .nil => ⟨[], .nil, rfl⟩
  | _, _, .cons ⟨v, h1, h2⟩ t => by
    obtain ⟨vs, k1, k2⟩ := of_each_rep t
    exact ⟨v :: vs, .cons h1 k1, ⟨v, vs, rfl, h2, k2⟩⟩
theorem each_reads {pins : List (Addr × Obj)} {sg : L2.St} {F H : Hp} {s : Shared} (I : Inv X pins sg H s) (sub : Same F H) {ds : List D} {us : List Value} (hp : ∀ d ∈ ds, ∃ p, toP d = some p) (h : PySem.W.EachIs (fun u d => ∃ v, RelV v u /\ Rep X.K X.mg dl F d v) us ds) : PySem.W.EachIs (fun u d => ∃ as, Reads s.heap u (pD d) as) us ds := by
  induction h with
  | nil => exact .nil
  | cons h t ih =>
    rename_i u d us ds
    obtain ⟨v, h1, h2⟩ := h
    refine .cons ?_ (ih fun x hx => hp x (List.mem_cons_of_mem _ hx))
    obtain ⟨p, e⟩ := hp d List.mem_cons_self
    unfold pD
    rw [e]
    exact Dp.reads I p v _ (dp_of sub d v p h2 e) h1
theorem cd_sorted (hu : X.A.units + 64 < cLine) : CallR X (.builtin "sorted") (rCD X dl sortedD) := by
  intro pins s sg H xs us Q I rv q
  obtain ⟨F, st, ds, r, wd, ra, e, k⟩ := q
  obtain ⟨d, ys, rfl, e1, hc, rfl⟩ := sortedD_some e
  obtain ⟨v, rfl, r1⟩ := repL1 ra
  obtain ⟨a, vs, rfl, hseq, hlen, rys⟩ := seq_of wd.sub r1 e1
  obtain ⟨u, rfl, ru⟩ := rv.one
  cases (show u = Value.ref a from ru)
  obtain ⟨c1, c2, c3, c4⟩ := canSort_of hc
  obtain ⟨its, rits, hcoll⟩ : ∃ its : List Value, Vals vs its /\ ∀ (A' : Around) (Q' : List Value -> Shared -> Prop) (E' : Value -> Shared -> Prop), Q' its { s with heap := (s.heap.push (seqObj "list" #[] 0)).update s.heap.objs.size (Obj.mapSeq (· ++ its.toArray)) } -> wpAny (model X.prog X.w) A' (collect (.ref a)) Q' E' s := by
    rcases hseq with h | h
    · obtain ⟨its, rr, pl, hz⟩ := I.tuple h
      exact ⟨its, rr, fun A' Q' E' hq => collect_tup (show s.heap.IsTuple a its.toArray from pl) hq (by rw [<- rr.length]; exact hz)⟩
    · obtain ⟨its, rr, pl, hz⟩ := I.list h
      exact ⟨its, rr, fun A' Q' E' hq => collect_list pl.isList hq (by rw [<- rr.length]; exact hz)⟩
  have each := each_rep rys rits
  refine sorted_coll_data each (each_reads I wd.sub c1 each) c2 c3 (by rw [rys.length]; exact hlen) hcoll (fun b hb => by have := c4 b hb; omega) fun out hl ho => ?_
  obtain ⟨ws, k1, k2⟩ := of_each_rep ho
  obtain ⟨ep, he'⟩ := PyProof.Rows.sortedAll_at s.heap its out.toArray
  have hlen2 : ws.length <= sizeLine := by rw [k1.length, hl, rys.length]; exact hlen
  have hf := I.hok.fresh (Nat.le_succ s.heap.objs.size)
  refine ⟨.ref _, upd H (s.heap.objs.size + 1) (.lst ws), I.laid (t' := s.toks) (fun _ _ => PyProof.Rows.sortedAll_old) (Nat.le_succ _) ⟨hlen2, out, ep, k1, by simpa using he'⟩, rfl, ?_⟩
  exact k _ _ _ (Step.new wd hf) (wd.new hf) ⟨_, ws, rfl, upd_same, hlen2, RepL.mono (Step.new wd hf).fs _ _ k2⟩
def isNone : PyData -> Bool
  | .none => true
  | _ => false
def ordD (g : PyData -> PyData -> Bool) : D -> D -> Option D := fun a b => (toP a).bind fun p => (toP b).bind fun q => if (PySem.W.alike p q && (decide (p.depth <= 60) && !isNone p)) = true then some (.bl (g p q)) else none
theorem ordD_some {g : PyData -> PyData -> Bool} {a b d : D} (h : ordD g a b = some d) : ∃ p q, toP a = some p /\ toP b = some q /\ PySem.W.alike p q = true /\ p.depth <= 60 /\ p ≠ .none /\ d = .bl (g p q) := by
  unfold ordD at h
  cases e1 : toP a with
  | none => rw [e1] at h; cases h
  | some p =>
    rw [e1] at h
    cases e2 : toP b with
    | none => rw [e2] at h; cases h
    | some q =>
      rw [e2] at h
      simp only [Option.bind_some] at h
      split at h
      · rename_i hc
        cases h
        obtain ⟨h1, h2⟩ := Bool.and_eq_true_iff.mp hc
        obtain ⟨h3, h4⟩ := Bool.and_eq_true_iff.mp h2
        exact ⟨p, q, rfl, rfl, h1, of_decide_eq_true h3, fun z => by subst z; simp [isNone] at h4, rfl⟩
      · cases h
theorem od_ord {op : CmpOp} {g : PyData -> PyData -> Bool} (hu : X.A.units + 64 < cLine)
    (rule : ∀ (A : Around) (E : Value -> Shared -> Prop) (s : Shared) (a b : Value) (da db : PyData) (as bs : List Addr) (Q : Value -> Shared -> Prop), Reads s.heap a da as -> Reads s.heap b db bs -> PySem.W.alike da db = true -> da ≠ .none -> A.units + min da.depth db.depth < cLine -> Q (.bool (g da db)) s -> wpAny (model X.prog X.w) A (compareOp op a b) Q E s) :
    OpR X (compareOp op) (rD X dl (ordD g)) := by
  intro pins s sg H x y v u Q I rx ry q
  obtain ⟨F, st, a, b, d, w, ra, rb, e, k⟩ := q
  obtain ⟨p, q, h1, h2, h3, h4, h5, rfl⟩ := ordD_some e
  obtain ⟨as, r1⟩ := Dp.reads I p x v (dp_of w.sub _ _ _ ra h1) rx
  obtain ⟨bs, r2⟩ := Dp.reads I q y u (dp_of w.sub _ _ _ rb h2) ry
  exact rule _ _ _ _ _ _ _ _ _ _ r1 r2 h3 h5 (by have : min p.depth q.depth <= p.depth := Nat.min_le_left _ _; omega) ⟨.bl _, H, I, rfl, k F H _ Step.refl w rfl⟩
def ltP := ordD fun p q => PySem.W.dataLt p q
theorem od_ltP (hu : X.A.units + 64 < cLine) : OpR X (compareOp .Lt) (rD X dl ltP) := od_ord hu fun _ _ _ _ _ _ _ _ _ _ r1 r2 h1 h2 h3 h4 => PySem.W.lt_data r1 r2 h1 h2 h3 h4
end
end
section
def txt : D -> Option Str
  | .str x => some x
  | _ => none
def txts (d : D) : Option (List Str) := (itemsTL d).bind fun ds => ds.mapM txt
def setD (g : List Str -> Option D) (d : D) : Option D := (txts d).bind fun xs => if xs.length + 1 < 4096 then g (dedupK xs) else none
def lenS (xs : List Str) : Option D := some (.int xs.length)
def sortS (xs : List Str) : List Str := xs.mergeSort (PySem.W.dataLe false PyData.str)
theorem mapM_txt : ∀ {ds : List D} {xs : List Str}, ds.mapM txt = some xs -> ds = xs.map D.str
  | [], xs, h => by simp at h; subst h; rfl
  | d :: ds, xs, h => by
    rw [List.mapM_cons] at h
    cases d with
    | str x =>
      cases e : ds.mapM txt with
      | none => rw [e] at h; simp [txt] at h
      | some ys =>
        rw [e] at h
        simp [txt] at h
        subst h
        rw [mapM_txt e]
        rfl
    | _ => simp [txt] at h
section
variable {X : Cx} {dl : Dr X.w X.K X.mg} {W : WX}
variable (X dl) in
def SetCall (f : String) (g : List Str -> Option D) : Prop := ∀ (pins : List (Addr × Obj)) (s : Shared) (sg : L2.St) (H : Hp) (ks : List Str) (a : Addr) (Q : VK), Inv X pins sg H s -> SetG (PySem.strKind X.prog X.w) s.heap a ks -> ks.length < 4096 ->
  (∃ (F : Hp) (st : DS) (d : D), Wd dl F H st /\ g ks = some d /\ ∀ F' H' v, Step dl F H F' H' -> Wd dl F' H' st -> Rep X.K X.mg dl F' d v -> Q v H') -> wpAny (model X.prog X.w) X.A (call (.builtin f) [.ref a]) (EP X pins sg Q) X.xe s
theorem repL_strs {K : PySem.W.Frag} {mg : Str -> Option Value} {wd : World} {dl : Dr wd K mg} {F : Hp} : ∀ {xs : List Str} {vs : List V}, RepL K mg dl F (xs.map D.str) vs -> vs = xs.map V.str
  | [], vs, h => h
  | x :: xs, vs, h => by
    obtain ⟨v, vs', rfl, h1, h2⟩ := h
    rw [repL_strs h2]
    cases (show v = .str x from h1)
    rfl
theorem each_strs {P : Program} {w : World} : ∀ {xs : List Str} {us : List Value}, Vals (xs.map V.str) us -> PySem.W.EachIs (fun v k => (PySem.strKind P w).is k v = true /\ v.scannable = true) us xs
  | [], _, .nil => .nil
  | x :: xs, _, .cons r t => by
    obtain ⟨k, rfl⟩ := r
    exact .cons ⟨strKind_is _ _ _ _, rfl⟩ (each_strs t)
theorem sc_len : SetCall X dl "len" lenS := by
  intro pins s sg H ks a Q I R hk ⟨F, st, d, wd, e, k⟩
  obtain ⟨o, es, ep, t, ho, hex, hd, g, ⟨l, pl, el⟩, nd, hb, hf, _⟩ := R
  have hlen : es.size = ks.length := by rw [<- Array.length_toList, el.length, pl.length_eq]
  cases (show D.int ks.length = d from Option.some.inj e)
  exact call_len_set ho hex hd hf (by rw [hlen]; omega) ⟨.int ks.length, H, I.tok _, ⟨_, by rw [hlen]⟩, k F H _ Step.refl wd rfl⟩
theorem txts_some {d : D} {xs : List Str} (h : txts d = some xs) : itemsTL d = some (xs.map D.str) := by
  unfold txts at h
  cases e : itemsTL d with
  | none => rw [e] at h; cases h
  | some ds =>
    rw [e] at h
    rw [mapM_txt (show ds.mapM txt = some xs from h)]
theorem setD_some {g : List Str -> Option D} {d r : D} (h : setD g d = some r) : ∃ xs : List Str, itemsTL d = some (xs.map D.str) /\ xs.length + 1 < 4096 /\ g (dedupK xs) = some r := by
  unfold setD at h
  cases e : txts d with
  | none => rw [e] at h; cases h
  | some xs =>
    rw [e] at h
    have h : (if xs.length + 1 < 4096 then g (dedupK xs) else none) = some r := h
    by_cases c : xs.length + 1 < 4096
    · rw [if_pos c] at h
      exact ⟨xs, txts_some e, c, h⟩
    · rw [if_neg c] at h; cases h
theorem foldl_addK_len {κ : Type} [DecidableEq κ] : ∀ (xs acc : List κ), (xs.foldl addK acc).length <= acc.length + xs.length
  | [], acc => Nat.le_refl _
  | x :: xs, acc => by
    have := foldl_addK_len xs (addK acc x)
    have := addK_len acc x
    rw [List.foldl_cons, List.length_cons]
    omega
theorem dedupK_len {κ : Type} [DecidableEq κ] (xs : List κ) : (dedupK xs).length <= xs.length := by
  have := foldl_addK_len xs []
  simpa [dedupK] using this
theorem de_ofSet {f : String} {x : Str} {g : List Str -> Option D} {a : Expr} {fa : SE} {p p2 q pos : Pos} (hf : SetCall X dl f g) (hc : X.calm = true) (hg : Gl X x) (hm : X.mg x = none) (hv : bootBuiltins x = some (.builtin f)) (hg2 : Gl X "set") (hm2 : X.mg "set" = none) (ha : DE X dl W a fa)
    (hn : x ≠ "__name__" := by decide) (hdb : (x == ("__debug__" : Str)) = false := by decide)
    (na : starEach [a] X.env = (false, eval a X.env) :: starEach [] X.env := by rfl) : DE X dl W (.Call (.Name x p) [.Call (.Name "set" p2) [a] [] q] [] pos) (g1 (setD g) fa) := by
  refine ⟨fun pins s σ H Q I h => ?_⟩
  refine Call_ (ld_blt I hg hm hv ?_ hn hdb)
  refine PyProof.Rows.callWith_builtin1 (PyProof.Rows.args_cons ?_ rfl) rfl rfl
  refine Call_ (ld_blt I hg2 hm2 boot_set ?_)
  obtain ⟨F, h⟩ := h
  have h := h.bnd
  refine PyProof.Rows.callWith_type1 (PyProof.Rows.args_cons (thn (ha.run pins s σ H _ I ⟨F, h.imp fun d F1 H1 ⟨st1, q1⟩ v rv => (⟨F1, d, q1, rv⟩ : ∃ (F1 : Hp) (d : D), (tGF X dl W F1 (fun _ => ofO (setD g d)) (fun d F' H' => ∀ v, Rep X.K X.mg dl F' d v -> Q v H') σ H1) /\ Rep X.K X.mg dl F1 d v)⟩) fun v s1 ⟨x, H1, I1, r1, q1⟩ => PyProof.Rows.args_nil ?_) na) na rfl
  obtain ⟨F1, d, q1, rd⟩ := q1
  obtain ⟨r, st, e, wd, q2⟩ := q1.op
  obtain ⟨xs, e1, hlen, e2⟩ := setD_some e
  obtain ⟨l, vs, rfl, hseq, hlen1, rys⟩ := seq_of wd.sub rd e1
  have ev := repL_strs rys
  subst ev
  cases (show v = Value.ref l from r1)
  have fin : ∀ (its : List Value), Vals (xs.map V.str) its -> ∀ (h' : Heap) (tk : Nat), SetG (PySem.strKind X.prog X.w) h' s1.heap.objs.size (dedupK xs) ->
      (∀ b o, s1.heap.get? b = some o -> h'.get? b = some o) ->
      wpAny (model X.prog X.w) X.A (spliced (backTo pos (starEach [] X.env))) (fun vs s₂ => wpAny (model X.prog X.w) X.A (call (.builtin f) (Value.ref s1.heap.objs.size :: vs)) (EP X pins σ Q) X.xe s₂) X.xe { s1 with heap := h', toks := tk } := fun its r h' tk hS hk => by
    refine PyProof.Rows.args_nil ?_
    exact hf pins _ σ H1 (dedupK xs) _ Q (I1.kept hk) hS (by have := dedupK_len xs; omega) ⟨F1, st, _, wd, e2, fun F' H' v st w r => q2 F' H' st w v r⟩
  rcases hseq with hq | hq
  · obtain ⟨its, r, pl, hz⟩ := I1.tuple hq
    exact setG_tuple (knd := PySem.strKind X.prog X.w) xs (I1.ok.hd hc) pl (by simpa using each_strs r) (by unfold scanBound; omega) fun h' tk hS hk => fin its r h' tk hS hk
  · obtain ⟨its, r, pl, hz⟩ := I1.list hq
    exact setG_list (knd := PySem.strKind X.prog X.w) xs (I1.ok.hd hc) pl.isList (by simpa using each_strs r) (by unfold scanBound; omega) fun h' tk hS hk => fin its r h' tk hS hk
end
end
section
def fzS : Option Sl -> Option Sl
  | some (.fz d) => some (.fz d)
  | _ => none
def fzG (G : Sls) : Sls := G.map fzS
theorem fzG_some {G : Sls} {i : Nat} {x : Sl} (h : (fzG G)[i]? = some (some x)) : ∃ d, x = .fz d /\ G[i]? = some (some (.fz d)) := by
  unfold fzG at h
  rw [List.getElem?_map] at h
  cases e : G[i]? with
  | none => rw [e] at h; cases h
  | some o =>
    rw [e] at h
    cases o with
    | none => simp [fzS] at h
    | some s =>
      cases s with
      | fz d => simp [fzS] at h; exact ⟨d, h.symm, rfl⟩
      | _ => simp [fzS] at h
section
variable {K : PySem.W.Frag} {mg : Str -> Option Value} {wd : World} {dl : Dr wd K mg} {F0 H0 F H F' H' : Hp} {sg : L2.St} {G : Sls}
theorem Sim.fz (S : Sim K mg dl F0 H0 F H sg G) (e : Same F F') (st : Step dl F0 H0 F' H') : Sim K mg dl F0 H0 F' H' sg (fzG G) := by
  refine ⟨by rw [fzG, List.length_map]; exact S.len, fun i s h => ?_, fun i j s t h1 h2 o1 => ?_, st, Trs.no fun i t e => by
    obtain ⟨d, z, _⟩ := fzG_some e
    cases z⟩
  · obtain ⟨d, rfl, h1⟩ := fzG_some h
    obtain ⟨v, h2, h3⟩ := S.sl i _ h1
    exact ⟨v, h2, Rep.mono e d v h3⟩
  · obtain ⟨d, rfl, _⟩ := fzG_some h1
    cases o1
end
theorem wipe_idem (sg : L2.St) (vs : List Nat) : L2.wipe (L2.wipe sg vs) vs = L2.wipe sg vs := by
  apply List.ext_getElem?
  intro j
  by_cases hj : j ∈ vs
  · have wn : ∀ (tg : L2.St) (vs : List Nat), j ∈ vs -> (L2.wipe tg vs)[j]? = if j < tg.length then some none else none := by
      intro tg vs
      induction vs with
      | nil => intro h; simp at h
      | cons v vs ih =>
        intro hm
        unfold L2.wipe
        by_cases hvj : v = j
        · subst hvj
          rw [List.getElem?_set, wipe_length]
          simp
        · rw [List.getElem?_set_ne hvj]
          exact ih (by
            rcases List.mem_cons.mp hm with z | z
            · exact absurd z.symm hvj
            · exact z)
    rw [wn _ _ hj, wn _ _ hj, wipe_length]
  · rw [wipe_keep hj]
def lc2M (vs1 : List Nat) (f : SG) (u : ST) (it1 : SA) (f1 : SG) (u1 : ST) (h : SE) (G : Sls) : List D -> M (List D)
  | [] => ret []
  | d :: ds => bnd (ofO (f G d)) fun G' => bnd (u G') fun k =>
      if k then bnd (it1 G') fun es => bnd (ofO (if es.length <= 1000 then some () else none)) fun _ => bnd (lcM f1 u1 h (wipeG (fzG G') vs1) es) fun r => bnd (lc2M vs1 f u it1 f1 u1 h G ds) fun r' => ret (r ++ r')
      else lc2M vs1 f u it1 f1 u1 h G ds
def gLc2 (vs vs1 : List Nat) (it : SA) (f : SG) (u : ST) (it1 : SA) (f1 : SG) (u1 : ST) (h : SE) : SA := fun G => bnd (it G) fun ds => bnd (ofO (if ds.length <= 1000 then some () else none)) fun _ => noErr (lc2M vs1 f u it1 f1 u1 h (wipeG G vs) ds)
section
variable {X : Cx} {dl : Dr X.w X.K X.mg} {W : WX}
theorem Wd.app {F H : Hp} {s : DS} {Dd : Addr} {o : HO} (w : Wd dl F H s) (n : F Dd = none) (nd : ¬ dl.has Dd) (ho : NotTbl o := by intro _ z; cases z) (hc : NotCode o := by intro _ _ z; unfold LamX.CodeO at z; cases z) : Wd dl F (upd H Dd o) s := by
  refine ⟨fun b u e => ?_, w.off, ?_, w.tb.upd (fun _ _ e => e) (fun q hq z => nd (.inr (.inr (.inr (.inl ⟨q.2, by rw [<- z]; exact hq⟩))))) ho (.inl hc), w.ob.set (fun _ _ e => e) fun ac q hq m => nd (.inr (.inr (.inr (.inr ⟨ac, q, m, hq⟩))))⟩
  · rw [upd_ne (ne_of_none e n)]; exact w.sub b u e
  · obtain ⟨d1, d2, d3, d4⟩ := w.dr
    exact ⟨by rw [upd_ne (fun z => nd (by rw [<- z]; exact .inl rfl))]; exact d1, by rw [upd_ne (fun z => nd (by rw [<- z]; exact .inr (.inl rfl)))]; exact d2, by rw [upd_ne (fun z => nd (by rw [<- z]; exact .inr (.inr (.inl rfl))))]; exact d3, d4⟩
theorem Step.app {F1 H1 F H : Hp} {Dd : Addr} {o : HO} (st : Step dl F1 H1 F H) (hD : H1 Dd = none) : Step dl F1 H1 F (upd H Dd o) :=
  ⟨st.fs, fun b o nb e => by rw [upd_ne (ne_of_none e hD)]; exact st.hs b o nb e, st.nw, fun b e => by
    by_cases z : b = Dd
    · subst z; exact hD
    · rw [upd_ne z] at e; exact st.al b e⟩
theorem Step.offD {F1 H1 F H : Hp} {Dd : Addr} {o : HO} (st : Step dl F1 H1 F H) (n : F1 Dd = none) (h : H1 Dd = some o) : F Dd = none := by
  cases q : F Dd with
  | none => rfl
  | some u =>
    rcases st.nw Dd u q with z | z
    · rw [n] at z; cases z
    · rw [h] at z; cases z
theorem lcm_it {J : It} {ds : List D} {F H F1 H1 Fb Hb F0 H0 : Hp} {sg : L2.St} {G : Sls} {is vs : List Nat} {f : SG} {u : ST} {h : SE} {Dd : Addr} {acc0 : List D} {accv0 : List V} {sb : DS} {kk : List D -> M (List D)} {q : List D -> DS -> Hp -> Hp -> Prop} {Nx : Hp -> Prop}
    (wk : Walk J ds.length (fun H2 => Same Fb H2) (DY X dl Fb ds)) (st01 : Step dl F H F1 H1) (hD : H1 Dd = none) (ndD : ¬ dl.has Dd) (wb : Wd dl Fb Hb sb) (stb : Step dl F1 H1 Fb Hb) (nb : Fb Dd = none) (hDb : Hb Dd = some (.lst accv0)) (rb : RepL X.K X.mg dl Fb acc0 accv0)
    (hlen : accv0.length + ds.length <= sizeLine) (S : Sim X.K X.mg dl F0 H0 Fb Hb sg G) (S0 : Step dl F0 H0 F1 H1) (hv : ∀ i ∈ is, i ∈ vs)
    (go : Go X.mg X.K dl (fun _ _ _ => False) F H (bnd (lcM f u h (wipeG (fzG G) vs) ds) kk sb) q)
    (hN : ∀ (F' H' : Hp) (s' : DS) (r : List D) (accv : List V), Wd dl F' H' s' -> Step dl F1 H1 F' H' -> Same Fb F' -> F' Dd = none -> H' Dd = some (.lst accv) -> RepL X.K X.mg dl F' (acc0 ++ r) accv -> accv.length <= accv0.length + ds.length ->
      Go X.mg X.K dl (fun _ _ _ => False) F H (kk r s') q -> Nx H') :
    ∃ W1 : Nat -> Nat -> Hp -> Prop, (∃ m, W1 0 m Hb) /\ ∀ j k H, W1 j k H -> (J.stop j H /\ Nx H) \/ (J.go j H /\ ∃ Nx1 : Hp -> Prop, (∀ H', Nx1 H' -> ∃ k', k' < k /\ W1 (j + 1) k' H') /\ ∀ x H', J.yld j H x H' ->
      gD X dl is f x (wipe sg vs) H' fun σ3 H5 => wipe σ3 vs = wipe sg vs /\ tDT X dl WF u σ3 H5 fun b H6 =>
        if b = true then tD X dl WF h σ3 H6 fun y H7 => ∃ acc, H7 Dd = some (.lst acc) /\ acc.length < sizeLine /\ Nx1 (upd H7 Dd (.lst (acc ++ [y]))) else Nx1 H6) := by
  let Pv : Nat -> Hp -> Prop := fun i H' => ∃ (F' : Hp) (s' : DS) (acc : List D) (accv : List V), Wd dl F' H' s' /\ Step dl F1 H1 F' H' /\ Same Fb F' /\ F' Dd = none /\ H' Dd = some (.lst accv) /\ RepL X.K X.mg dl F' (acc0 ++ acc) accv /\ accv.length <= accv0.length + i /\
      Go X.mg X.K dl (fun _ _ _ => False) F H (bnd (lcM f u h (wipeG (fzG G) vs) (ds.drop i)) (fun r => kk (acc ++ r)) s') q
  refine ⟨fun i m H => m = ds.length - i /\ i <= ds.length /\ Pv i H, ⟨ds.length, by simp, Nat.zero_le _, Fb, sb, [], accv0, wb, stb, fun _ _ e => e, nb, hDb, by simpa using rb, Nat.le_refl _, by simpa using go⟩, ?_⟩
  rintro i m H' ⟨rfl, hi, F', s', acc, accv, w', st', sm', n', hd', ra, la, go⟩
  have sg' : Same Fb H' := fun b o e => w'.sub b o (sm' b o e)
  by_cases hlt : i < ds.length
  case neg =>
    have e : i = ds.length := by omega
    subst e
    refine .inl ⟨wk.stops H' sg', hN F' H' s' acc accv w' st' sm' n' hd' ra (by omega) ?_⟩
    rw [List.drop_length] at go
    simpa [lcM] using go
  refine .inr ⟨wk.goes i H' hlt sg', Pv (i + 1), fun H'' p' => ⟨ds.length - (i + 1), by omega, rfl, hlt, p'⟩, fun x H2 y => ?_⟩
  obtain ⟨F2, d, st2, w2, e2, r2⟩ := wk.yields i H' x H2 hlt sg' y F' s' sm' w'
  have ed : ds.drop i = d :: ds.drop (i + 1) := by
    rw [List.drop_eq_getElem_cons hlt]
    have : ds[i] = d := by
      rw [List.getElem?_eq_getElem hlt] at e2
      exact Option.some.inj e2
    rw [this]
  rw [ed] at go
  have go : Go X.mg X.K dl (fun _ _ _ => False) F H (bnd (ofO (f (wipeG (fzG G) vs) d)) (fun G' => bnd (bnd (u G') fun k => if k then bnd (h G') fun y => bnd (lcM f u h (wipeG (fzG G) vs) (ds.drop (i + 1))) fun r => ret (y :: r) else lcM f u h (wipeG (fzG G) vs) (ds.drop (i + 1))) (fun r => kk (acc ++ r))) s') q := by
    rw [<- bnd_assoc]; exact go
  have st02 : Step dl F H F2 H2 := st01.trans (st'.trans st2)
  have go1 := Go.at (F1 := F2) (H1 := H2) st02 go
  obtain ⟨G', eG, go2⟩ := go1.ofO
  have go3 := go2 F2 H2 Step.refl w2
  clear go go1 go2
  have nD2 : F2 Dd = none := st2.offD n' hd'
  have hD2 : H2 Dd = some (.lst accv) := st2.hs Dd _ ndD hd'
  have sm2 : Same Fb F2 := fun b o e => st2.fs b o (sm' b o e)
  refine ⟨F0, H0, F2, wipeG (fzG G) vs, s', d, G', w2, (S.fz sm2 (S0.trans (st'.trans st2))).wipe _, r2, eG, fun sg2 hw2 S2 => ⟨?_, ?_⟩⟩
  · rw [hw2 vs hv, wipe_idem]
  · have go3 : Go X.mg X.K dl (fun _ _ _ => False) F H (bnd (u G') (fun k => bnd (if k then bnd (h G') fun y => bnd (lcM f u h (wipeG (fzG G) vs) (ds.drop (i + 1))) fun r => ret (y :: r) else lcM f u h (wipeG (fzG G) vs) (ds.drop (i + 1))) (fun r => kk (acc ++ r))) s') q := by
      rw [<- bnd_assoc]; exact go3
    refine ⟨F2, F0, H0, G', s', w2, S2, Go.imp (Go.at st02 go3) fun k s3 F3 H3 st3 w3 go4 => ?_⟩
    have st03 := st02.trans st3
    have nD3 : F3 Dd = none := st3.offD nD2 hD2
    have hD3 : H3 Dd = some (.lst accv) := st3.hs Dd _ ndD hD2
    cases k with
    | false =>
      refine iteF ?_
      exact ⟨F3, s3, acc, accv, w3, st'.trans (st2.trans st3), fun b o e => st3.fs b o (sm2 b o e), nD3, hD3, RepL.mono (st2.trans st3).fs _ _ ra, Nat.le_succ_of_le la, by simpa using go4⟩
    | true =>
      refine iteT ?_
      simp only [if_true] at go4
      have go4 : Go X.mg X.K dl (fun _ _ _ => False) F H (bnd (h G') (fun y => bnd (bnd (lcM f u h (wipeG (fzG G) vs) (ds.drop (i + 1))) fun r => ret (y :: r)) (fun r => kk (acc ++ r))) s3) q := by
        rw [<- bnd_assoc]; exact go4
      refine ⟨F3, F0, H0, G', s3, w3, S2.step st3, Go.imp (Go.at st03 go4) fun yv s4 F4 H4 st4 w4 go5 v rv => ?_⟩
      have nD4 : F4 Dd = none := st4.offD nD3 hD3
      have hD4 : H4 Dd = some (.lst accv) := st4.hs Dd _ ndD hD3
      refine ⟨accv, hD4, by omega, F4, s4, acc ++ [yv], accv ++ [v], w4.app nD4 ndD, (st'.trans ((st2.trans st3).trans st4)).app hD, fun b o e => st4.fs b o (st3.fs b o (sm2 b o e)), nD4, upd_same, ?_, by simp; omega, ?_⟩
      · rw [<- List.append_assoc]
        exact (RepL.mono ((st2.trans st3).trans st4).fs _ _ ra).append ⟨v, [], rfl, rv, rfl⟩
      · rw [bnd_assoc] at go5
        simpa using go5
theorem lc2R {own : List (Str × Nat)} {vs1 : List Nat} {it it1 : SA} {is is1 : List Nat} {f f1 : SG} {u u1 : ST} {h : SE} {sg : L2.St} {H : Hp} {Q : VK} (hv : ∀ i ∈ is, i ∈ own.map (·.2)) (hv1 : ∀ i ∈ is1, i ∈ vs1) (q : tDO X dl W (gLc2 (own.map (·.2)) vs1 it f u it1 f1 u1 h) sg H Q) :
    tLc2 (tIm X dl W it) (gD X dl is f) (tDT X dl WF u) (tIs X dl WF it1) (gD X dl is1 f1) (tDT X dl WF u1) (tD X dl WF h) (own.map (·.2)) vs1 sg H Q := by
  obtain ⟨F, F0, H0, G, s, w, S, g⟩ := q
  refine ⟨F, F0, H0, G, s, w, S, Go.imp (Go.at Step.refl g) fun ds s1 F1 H1 st1 w1 g1 J dlen wk Dd hD => ?_⟩
  have g1 := Go.at (F1 := F1) (H1 := H1) st1 g1
  obtain ⟨_, eN, g1⟩ := g1.ofO
  have hn : ds.length <= 1000 := by
    by_cases c : ds.length <= 1000
    · exact c
    · rw [if_neg c] at eN; cases eN
  have g2 := Go.noErr (g1 F1 H1 Step.refl w1)
  clear g1 g
  have S1 := S.step st1
  have hDH : H Dd = none := st1.al Dd hD
  have ndD : ¬ dl.has Dd := w1.na hD
  have hsz : (1000000 : Nat) + 1000 <= sizeLine := by rw [sizeLine_eq]; omega
  let Pv : Nat -> Hp -> Prop := fun i H' => ∃ (F' : Hp) (s' : DS) (acc : List D) (accv : List V), Wd dl F' H' s' /\ Step dl F1 H1 F' H' /\ F' Dd = none /\ H' Dd = some (.lst accv) /\ RepL X.K X.mg dl F' acc accv /\ accv.length <= 1000 * i /\
      Go X.mg X.K dl (fun _ _ _ => False) F H (lc2M vs1 f u it1 f1 u1 h (wipeG G (own.map (·.2))) (ds.drop i) s') fun r _ F2 H2 => ∀ a, NewL X dl H (acc ++ r) F2 H2 a -> Q (.ref a) H2
  refine ⟨fun i m H => m = ds.length - i /\ i <= ds.length /\ Pv i H, ⟨ds.length, by simp, Nat.zero_le _, F1, s1, [], [], w1.newO hD, Step.newO hD, w1.fnone hD, upd_same, rfl, Nat.zero_le _, by simpa using g2⟩, ?_⟩
  rintro i m H' ⟨rfl, hi, F', s', acc, accv, w', st', n', hd', ra, la, go⟩
  have kp : Keep dl H1 H' := fun b o nb e => st'.hs b o nb e
  by_cases hlt : i < ds.length
  case neg =>
    have e : i = ds.length := by omega
    subst e
    rw [List.drop_length] at go
    exact .inl ⟨wk.stops H' kp, go F' H' (st1.trans st') w' Dd ⟨hDH, n', accv, hd', by omega, by simpa using ra⟩⟩
  refine .inr ⟨wk.goes i H' hlt kp, Pv (i + 1), fun H'' p' => ⟨ds.length - (i + 1), by omega, rfl, hlt, p'⟩, fun x H2 y => ?_⟩
  obtain ⟨F2, d, st2, w2, e2, r2⟩ := wk.yields i H' x H2 hlt kp y F' s' st'.fs w'
  have ed : ds.drop i = d :: ds.drop (i + 1) := by
    rw [List.drop_eq_getElem_cons hlt]
    have : ds[i] = d := by
      rw [List.getElem?_eq_getElem hlt] at e2
      exact Option.some.inj e2
    rw [this]
  rw [ed] at go
  have st12 : Step dl F1 H1 F2 H2 := st'.trans st2
  have go1 := Go.at (F1 := F2) (H1 := H2) (st1.trans st12) go
  obtain ⟨G', eG, go2⟩ := go1.ofO
  have go3 := go2 F2 H2 Step.refl w2
  clear go go1 go2
  have nD2 : F2 Dd = none := st2.offD n' hd'
  have hD2 : H2 Dd = some (.lst accv) := st2.hs Dd _ ndD hd'
  refine ⟨F0, H0, F2, wipeG G (own.map (·.2)), s', d, G', w2, (S1.step st12).wipe _, r2, eG, fun sg2 hw2 S2 => ⟨?_, ?_⟩⟩
  · rw [hw2 _ hv, wipe_idem]
  · refine ⟨F2, F0, H0, G', s', w2, S2, Go.imp (Go.at (st1.trans st12) go3) fun k s3 F3 H3 st3 w3 go4 => ?_⟩
    have st13 := st12.trans st3
    have nD3 : F3 Dd = none := st3.offD nD2 hD2
    have hD3 : H3 Dd = some (.lst accv) := st3.hs Dd _ ndD hD2
    cases k with
    | false =>
      refine iteF ?_
      exact ⟨F3, s3, acc, accv, w3, st'.trans (st2.trans st3), nD3, hD3, RepL.mono (st2.trans st3).fs _ _ ra, by omega, go4⟩
    | true =>
      refine iteT ?_
      refine ⟨F3, F0, H0, G', s3, w3, S2.step st3, Go.imp (Go.at (st1.trans st13) go4) fun es s4 F4 H4 st4 w4 go5 J1 _ wk1 => ?_⟩
      have go5 := Go.at (F1 := F4) (H1 := H4) (st1.trans (st13.trans st4)) go5
      obtain ⟨_, eN1, go6⟩ := go5.ofO
      have hn1 : es.length <= 1000 := by
        by_cases c : es.length <= 1000
        · exact c
        · rw [if_neg c] at eN1; cases eN1
      have st14 := st13.trans st4
      have go7 := go6 F4 H4 Step.refl w4
      clear go6 go5 go4
      have nD4 : F4 Dd = none := st4.offD nD3 hD3
      have hD4 : H4 Dd = some (.lst accv) := st4.hs Dd _ ndD hD3
      have ra4 := RepL.mono ((st2.trans st3).trans st4).fs _ _ ra
      refine lcm_it (F := F) (H := H) (F1 := F1) (H1 := H1) (F0 := F0) (H0 := H0) wk1 st1 hD ndD w4 st14 nD4 hD4 ra4 (by omega) (S2.step (st3.trans st4)) S1.st hv1 go7 ?_
      intro F5 H5 s5 r accv5 w5 st5 sm5 n5 h5 ra5 l5 go8
      refine ⟨F5, s5, acc ++ r, accv5, w5, st5, n5, h5, ra5, by omega, ?_⟩
      have go9 := Go.at (F1 := F) (H1 := H) Step.refl go8
      refine Go.imp go9 fun r' s6 F6 H6 st6 w6 go10 a na => ?_
      exact go10 F6 H6 st6 w6 a (by simpa using na)
end
end
section
section
variable {X : Cx} {dl : Dr X.w X.K X.mg} {W : WX} {e : Expr} {fe : SE} {p pos : Pos}
structure IsiT (K : PySem.W.Frag) (mg : Str -> Option Value) (c : Str) (us : List Value) (b : Bool) : Prop where
  ex : ∃ C, mg c = some (.ref C) /\ Cls K C /\ PySem.W.findIn K (.ref C) "__class__" = some (some (.builtin "object.__class__")) /\ PySem.W.specialIn K (.builtin "object.__class__") "__get__" = some (some (.builtin "getset_descriptor.__get__")) /\
    PySem.W.takesIn K (.builtin "object.__class__") = some true /\ PySem.W.mroIn K C (.type "object") = some true /\ PySem.W.kitAny K (.ref C) us = some b
theorem tyx_objT {F H : Hp} {s : DS} {c : Str} {d : D} {v : V} {us : List Value} {b : Bool} (w : Wd dl F H s) (h : IsiT X.K X.mg c us b) (hc : isC c d = true) (r : Rep X.K X.mg dl F d v) : ∃ C, TyX X.K H v (.ref C) /\ PySem.W.kitAny X.K (.ref C) us = some b := by
  obtain ⟨C, h1, h2, h3, h4, h5, h6, h7⟩ := h.ex
  obtain ⟨a, dx, fs, rfl, ha, _⟩ := obj_at h1 w.sub hc r
  exact ⟨C, .base (.ins ha h2 h3 h4 h5 h6), h7⟩
theorem de_isiT {us : List Value} {cvs : List V} {es : List Expr} {x1 : Nat} {p1 : Pos} {cs : List (Str × Bool)} {ans : String -> Option Bool} (hg : Gl X "isinstance") (hm : X.mg "isinstance" = none) (hT : PA X es (fun _ H Q => Q cvs H)) (hcv : Paired ClsV cvs us) (hlen : cvs.length <= 100) (hcs : ∀ c b, cs.lookup c = some b -> IsiT X.K X.mg c us b) (hans : ∀ t b, ans t = some b -> PySem.W.kitAny X.K (.type t) us = some b) (he : DE X dl W e fe)
    (hs1 : starEach [e, .Tuple es x1 p1] X.env = (false, eval e X.env) :: starEach [.Tuple es x1 p1] X.env := by rfl) (hs2 : starEach [.Tuple es x1 p1] X.env = (false, eval (.Tuple es x1 p1) X.env) :: starEach [] X.env := by rfl) (hpl : (backTo pos (starEach [.Tuple es x1 p1] X.env)).any (·.1) = false := by rfl) :
    DE X dl W (.Call (.Name "isinstance" p) [e, .Tuple es x1 p1] [] pos) (g1 (isiD cs ans) fe) := by
  refine PE.of (pe_callB call_isiT hg hm (by decide +kernel) (pa_cons he (pa_cons (pe_tup hT) pa_nil hs2) hs1) (by decide) (by decide) hs1 hpl) fun sg H Q q => ?_
  obtain ⟨F, q⟩ := q
  refine ⟨F, q.bnd.imp fun d F1 H1 ⟨st1, q1⟩ v rv => ?_⟩
  obtain ⟨y, s, e1, w, q2⟩ := q1.op
  refine ⟨by rw [sizeLine_eq]; omega, fun tp hp => ?_⟩
  have w' := w.newO (o := .tup cvs) hp
  cases hd : tyN d with
  | some t =>
    have e2 : ((ans t).map D.bl) = some y := by
      cases d <;> first | (simpa [isiD, hd] using e1) | (simp [tyN] at hd)
    cases ha : ans t with
    | none => rw [ha] at e2; cases e2
    | some b =>
      rw [ha] at e2
      cases e2
      exact ⟨v, tp, cvs, .type t, us, b, rfl, upd_same, hcv, tyx_of w' rv hd, hans t b ha, q2 F1 _ (Step.newO hp) w' _ rfl⟩
  | none =>
    cases d with
    | obj c ns xs =>
      have e2 : ((cs.lookup c).map D.bl) = some y := e1
      cases hc : cs.lookup c with
      | none => rw [hc] at e2; cases e2
      | some b =>
        rw [hc] at e2
        cases e2
        obtain ⟨C, t1, t2⟩ := tyx_objT w' (hcs c b hc) (by simp [isC]) rv
        exact ⟨v, tp, cvs, .ref C, us, b, rfl, upd_same, hcv, t1, t2, q2 F1 _ (Step.newO hp) w' _ rfl⟩
    | dcT _ _ => cases e1
    | dcN _ _ => cases e1
    | exm _ _ => cases e1
    | ptp _ => cases e1
    | mob _ _ _ => cases e1
    | exc _ _ _ => cases e1
    | _ => cases hd
end
end
section
section
variable {X : Cx} {dl : Dr X.w X.K X.mg} {W : WX} {elt tg iter tg1 iter1 : Expr} {ifs ifs1 : List Expr} {scope : Scope} {own : List (Str × Nat)} {vs1 : List Nat} {it it1 : SA} {is is1 : List Nat} {f f1 : SG} {u u1 : ST} {h : SE} {pos py spos : Pos} {y : Str}
theorem ds_lc (i : Nat) (hc : X.calm = true) (hN : X.N.Nodup) (hy : X.N[i]? = some y) (hyl : X.env.scope.names.lookup y = some .local)
    (hsw : swapsWith (.ListComp elt [⟨tg, iter, ifs, 0⟩] scope pos) (some (.Name y py)) spos.line X.env = pure true) (hi : DIm X dl W tg iter it) (ok : BlkOk X.N X.env.scope scope own) (hv : ∀ i ∈ is, i ∈ own.map (·.2))
    (hg : ∀ (s : Shared) (H : Hp) (C : Addr) (cl : List (Str × Addr)) (fp : List Addr), DG (X.blk s H scope (compEnvC scope cl C X.env) fp) dl tg is f)
    (ht : ∀ (s : Shared) (H : Hp) (C : Addr) (cl : List (Str × Addr)) (fp : List Addr), PTs (X.blk s H scope (compEnvC scope cl C X.env) fp) ifs (tDT (X.blk s H scope (compEnvC scope cl C X.env) fp) dl WF u))
    (he : ∀ (s : Shared) (H : Hp) (C : Addr) (cl : List (Str × Addr)) (fp : List Addr), DE (X.blk s H scope (compEnvC scope cl C X.env) fp) dl WF elt h) (hs : ∀ x, foldedSetIterable iter X.env x = pure x := by intro _; rfl) :
    DSt X dl W (.Assign [.Name y py] (.ListComp elt [⟨tg, iter, ifs, 0⟩] scope pos) spos) (sAsg (gLO (gLc (own.map (·.2)) it f u h)) (sgN i)) :=
  PS.of (ps_setLc (tt := tDT X dl WF u) (te := tD X dl WF h) (g := gD X dl is f) (i := i) hc hN hy hyl hsw hi ok hg ht he hs) fun _ _ _ q => lcR hv (ownR (set_rd q))
theorem ds_lc2 (i : Nat) (hc : X.calm = true) (hN : X.N.Nodup) (hy : X.N[i]? = some y) (hyl : X.env.scope.names.lookup y = some .local)
    (hsw : swapsWith (.ListComp elt [⟨tg, iter, ifs, 0⟩, ⟨tg1, iter1, ifs1, 0⟩] scope pos) (some (.Name y py)) spos.line X.env = pure true) (hi : DIm X dl W tg iter it) (ok : BlkOk X.N X.env.scope scope own) (hv : ∀ i ∈ is, i ∈ own.map (·.2))
    (hvo : ∀ i ∈ vs1, i ∈ own.map (·.2)) (hv1 : ∀ i ∈ is1, i ∈ vs1)
    (hg : ∀ (s : Shared) (H : Hp) (C : Addr) (cl : List (Str × Addr)) (fp : List Addr), DG (X.blk s H scope (compEnvC scope cl C X.env) fp) dl tg is f)
    (ht : ∀ (s : Shared) (H : Hp) (C : Addr) (cl : List (Str × Addr)) (fp : List Addr), PTs (X.blk s H scope (compEnvC scope cl C X.env) fp) ifs (tDT (X.blk s H scope (compEnvC scope cl C X.env) fp) dl WF u))
    (hi1 : ∀ (s : Shared) (H : Hp) (C : Addr) (cl : List (Str × Addr)) (fp : List Addr), DIs (X.blk s H scope (compEnvC scope cl C X.env) fp) dl WF tg1 iter1 it1)
    (hg1 : ∀ (s : Shared) (H : Hp) (C : Addr) (cl : List (Str × Addr)) (fp : List Addr), DG (X.blk s H scope (compEnvC scope cl C X.env) fp) dl tg1 is1 f1)
    (ht1 : ∀ (s : Shared) (H : Hp) (C : Addr) (cl : List (Str × Addr)) (fp : List Addr), PTs (X.blk s H scope (compEnvC scope cl C X.env) fp) ifs1 (tDT (X.blk s H scope (compEnvC scope cl C X.env) fp) dl WF u1))
    (he : ∀ (s : Shared) (H : Hp) (C : Addr) (cl : List (Str × Addr)) (fp : List Addr), DE (X.blk s H scope (compEnvC scope cl C X.env) fp) dl WF elt h) (hs : ∀ x, foldedSetIterable iter X.env x = pure x := by intro _; rfl) (hs1 : ∀ env x, foldedSetIterable iter1 env x = pure x := by intro _ _; rfl) :
    DSt X dl W (.Assign [.Name y py] (.ListComp elt [⟨tg, iter, ifs, 0⟩, ⟨tg1, iter1, ifs1, 0⟩] scope pos) spos) (sAsg (gLO (gLc2 (own.map (·.2)) vs1 it f u it1 f1 u1 h)) (sgN i)) :=
  PS.of (ps_setLc2 (tt := tDT X dl WF u) (tt1 := tDT X dl WF u1) (te := tD X dl WF h) (g := gD X dl is f) (g1 := gD X dl is1 f1) (wi1 := tIs X dl WF it1) (i := i) hc hN hy hyl hsw hi ok hvo hg ht hi1 hg1 ht1 he hs hs1) fun _ _ _ q => lc2R hv hv1 (ownR (set_rd q))
end
end
section
def ownAt (G : Sls) (i : Nat) : Option (List D) := match G[i]? with
  | some (some (.own ds)) => some ds
  | _ => none
def ixO (ds : List D) : D -> Option D
  | .int k => atI ds k
  | _ => none
def gIxO (i : Nat) (f : SE) : SE := fun G => bnd (ofO (ownAt G i)) fun ds => bnd (f G) fun j => ofO (ixO ds j)
def setO (ds : List D) (d : D) : D -> Option (List D)
  | .int k => (ixN ds.length k).map fun n => ds.set n d
  | _ => none
def sSetO (i : Nat) (fj fe : SE) : SS := fun G => bnd (ofO (ownAt G i)) fun ds => bnd (fe G) fun d => bnd (fj G) fun j => bnd (ofO (setO ds d j)) fun ds' => ret (.next (G.set i (some (.own ds'))))
end
section
section
variable (X : Cx) (dl : Dr X.w X.K X.mg) (W : WX)
def NewX (H : Hp) (k : OK) (ds : List D) (F' H' : Hp) (a : Addr) : Prop := H a = none /\ F' a = none /\ ∃ vs, H' a = some (k.ho vs) /\ k.len = vs.length /\ (k.len <= 1000 /\ k.nd) /\ RepL X.K X.mg dl F' ds vs
def NewT (H : Hp) (t : T) (F' H' : Hp) (v : V) : Prop := ∃ as, TR X.K X.mg dl F' H' t v as /\ as.Nodup /\ ∀ a ∈ as, H a = none /\ F' a = none
def NewSl (H F' H' : Hp) : Sl -> V -> Prop
  | .fz d, v => Rep X.K X.mg dl F' d v
  | .own ds, v => ∃ a, v = .ref a /\ NewL X dl H ds F' H' a
  | .ini _ _ _, _ => False
  | .ownX k ds, v => ∃ a, v = .ref a /\ NewX X dl H k ds F' H' a
  | .tree t, v => NewT X dl H t F' H' v
  | .ownP _ _ _, _ => False
def tSl (f : Sls -> M Sl) : TE := fun sg H Q => ∃ F, tGF X dl W F f (fun sl F' H' => ∀ v, NewSl X dl H F' H' sl v -> Q v H') sg H
abbrev DES (e : Expr) (f : Sls -> M Sl) : Prop := PE X e (tSl X dl W f)
end
def slF (f : SE) : Sls -> M Sl := fun G => bnd (f G) fun d => ret (.fz d)
def slO (f : SA) : Sls -> M Sl := fun G => bnd (f G) fun ds => ret (.own ds)
def sPar (i j : Nat) (f g : Sls -> M Sl) : SS := fun G => bnd (f G) fun a => bnd (g G) fun b => ret (.next ((G.set i (some a)).set j (some b)))
section
variable {X : Cx} {dl : Dr X.w X.K X.mg} {W : WX} {e : Expr} {F0 H0 F H F1 H1 : Hp} {sg : L2.St} {G : Sls} {i : Nat} {sl : Sl} {v : V} {pos : Pos}
theorem des_fz {f : SE} (h : DE X dl W e f) : DES X dl W e (slF f) := by
  refine PE.of h fun sg H Q q => ?_
  obtain ⟨F, F0, H0, G, s, w, S, g⟩ := q
  refine ⟨F, F0, H0, G, s, w, S, (Go.at Step.refl g).imp fun d s1 F1 H1 st1 w1 g1 v rv => ?_⟩
  exact g1 F1 H1 st1 w1 v rv
theorem des_own {f : SA} (h : DEO X dl W e f) : DES X dl W e (slO f) := by
  refine PE.of h fun sg H Q q => ?_
  obtain ⟨F, F0, H0, G, s, w, S, g⟩ := q
  refine ⟨F, F0, H0, G, s, w, S, (Go.at Step.refl g).imp fun ds s1 F1 H1 st1 w1 g1 a na => ?_⟩
  exact g1 F1 H1 st1 w1 _ ⟨a, rfl, na⟩
section
variable {F0 H0 F H F1 H1 : Hp}
theorem Sim.putTree {sg : L2.St} {G : Sls} {s : DS} {t : T} {v : V} {i : Nat} (S : Sim X.K X.mg dl F0 H0 F H sg G) (w : Wd dl F H s) (st : Step dl F H F1 H1) (h : NewT X dl H t F1 H1 v) : Sim X.K X.mg dl F0 H0 F1 H1 (sg.set i (some v)) (G.set i (some (.tree t))) := by
  have S1 := S.step st
  obtain ⟨as, h1, h2, h3⟩ := h
  have old : ∀ (j : Nat) (u : Sl), (G.set i (some (.tree t)))[j]? = some (some u) -> (i = j /\ u = .tree t /\ i < G.length) \/ (i ≠ j /\ G[j]? = some (some u)) := fun j u e => by
    by_cases z : i = j
    · subst z
      by_cases q : i < G.length
      · rw [List.getElem?_set_self q] at e
        cases e
        exact .inl ⟨rfl, rfl, q⟩
      · rw [List.getElem?_set] at e
        simp [q] at e
    · rw [List.getElem?_set_ne z] at e
      exact .inr ⟨z, e⟩
  refine ⟨by rw [List.length_set, List.length_set]; exact S.len, fun j u ej => ?_, fun j k u u' e1 e2 o1 o2 e3 => ?_, S1.st, ?_⟩
  · rcases old j u ej with ⟨rfl, rfl, q⟩ | ⟨z, z2⟩
    · exact ⟨v, List.getElem?_set_self (by rw [<- S.len]; exact q), trivial⟩
    · rw [List.getElem?_set_ne z]
      exact S1.sl j u z2
  · rcases old j u e1 with ⟨rfl, rfl, q⟩ | ⟨z, z2⟩
    · cases o1
    rcases old k u' e2 with ⟨rfl, rfl, q⟩ | ⟨y, y2⟩
    · cases o2
    rw [List.getElem?_set_ne z, List.getElem?_set_ne y] at e3
    exact S.dis j k u u' z2 y2 o1 o2 e3
  · obtain ⟨fp, T1⟩ := S1.tr
    refine ⟨fun j => if j = i then as else fp j, fun j u ej => ?_, fun j k u u' e1 e2 hjk a ha => ?_, fun j k u s' a e1 e2 o es => ?_⟩
    · rcases old j _ ej with ⟨rfl, q, q2⟩ | ⟨z, z2⟩
      · cases q
        simp only [if_true]
        exact ⟨v, List.getElem?_set_self (by rw [<- S.len]; exact q2), h1, h2, fun a ha => ⟨(h3 a ha).2, S.st.al a (h3 a ha).1, w.na (h3 a ha).1⟩⟩
      · rw [List.getElem?_set_ne z, if_neg (Ne.symm z)]
        exact T1.at_ j u z2
    · rcases old j _ e1 with ⟨rfl, q, q2⟩ | ⟨z, z2⟩
      · simp only [if_true] at ha
        rcases old k _ e2 with ⟨rfl, q, q2⟩ | ⟨y, y2⟩
        · exact absurd rfl hjk
        · rw [if_neg (Ne.symm y)]
          exact S.notTr st (h3 a ha).1 fp T1 k u' y2
      · rw [if_neg (Ne.symm z)] at ha
        rcases old k _ e2 with ⟨rfl, q, q2⟩ | ⟨y, y2⟩
        · simp only [if_true]
          exact fun q => S.notTr st (h3 a q).1 fp T1 j u z2 ha
        · rw [if_neg (Ne.symm y)]
          exact T1.dj j k u u' z2 y2 hjk a ha
    · rcases old k _ e2 with ⟨rfl, q, q2⟩ | ⟨y, y2⟩
      · subst q; cases o
      rw [List.getElem?_set_ne y] at es
      rcases old j _ e1 with ⟨rfl, q, q2⟩ | ⟨z, z2⟩
      · simp only [if_true]
        exact fun q => S.notAt (F1 := F1) (H1 := H1) (h3 a q).1 k s' y2 o es
      · rw [if_neg (Ne.symm z)]
        exact T1.nx j k u s' a z2 y2 o es
end
theorem Sim.putNew {s : DS} (S : Sim X.K X.mg dl F0 H0 F H sg G) (w : Wd dl F H s) (st : Step dl F H F1 H1) (h : NewSl X dl H F1 H1 sl v) : Sim X.K X.mg dl F0 H0 F1 H1 (sg.set i (some v)) (G.set i (some sl)) := by
  cases sl with
  | fz d => exact (S.step st).put h
  | own ds =>
    obtain ⟨a, rfl, n1, n2, vs, h1, h2, h3⟩ := h
    exact (S.step st).putOwn (fun j t _ ej o => S.notAt (F1 := F1) (H1 := H1) n1 j t ej o) (S.notTr st n1) h1 n2 (S.st.al a n1) (w.na n1) h2 h3
  | ini _ _ _ => exact h.elim
  | ownX k ds =>
    obtain ⟨a, rfl, n1, n2, vs, h1, h2, h3, h4⟩ := h
    exact (S.step st).putX (fun j t _ ej o => S.notAt (F1 := F1) (H1 := H1) n1 j t ej o) (S.notTr st n1) h1 n2 (S.st.al a n1) (w.na n1) h2 h3 h4
  | ownP _ _ _ => exact h.elim
  | tree t => exact S.putTree w st h
theorem ds_par (i j : Nat) {x y : Str} {a b : Expr} {f g : Sls -> M Sl} {px py pt : Pos} {kt k2 : Nat} {pt2 : Pos} (hc : X.calm = true) (hN : X.N.Nodup) (ha : DES X dl W a f) (hb : DES X dl W b g)
    (hi : X.N[i]? = some x := by rfl) (hj : X.N[j]? = some y := by rfl) (hij : i ≠ j := by decide)
    (hx : X.env.scope.names.lookup x = some .local := by rfl) (hy : X.env.scope.names.lookup y = some .local := by rfl)
    (hw : swappedStores [.Tuple [.Name x px, .Name y py] kt pt] (.Tuple [a, b] k2 pt2) X.env = pure (some [x, y]) := by rfl)
    (hs : swapsWithSole [.Tuple [.Name x px, .Name y py] kt pt] (.Tuple [a, b] k2 pt2) pos.line X.env = pure false := by rfl)
    (hs1 : starEach [a, b] X.env = (false, eval a X.env) :: starEach [b] X.env := by rfl) (hs2 : starEach [b] X.env = (false, eval b X.env) :: starEach [] X.env := by rfl) :
    DSt X dl W (.Assign [.Tuple [.Name x px, .Name y py] kt pt] (.Tuple [a, b] k2 pt2) pos) (sPar i j f g) := by
  refine PS.of (ps_par hc hN hi hj hij hx hy (pa_cons ha (pa_cons hb pa_nil hs2) hs1) hw hs) fun E sg H q => ?_
  obtain ⟨F0, H0, F, G, s, w, S, g⟩ := q
  refine ⟨F, F0, H0, G, s, w, S, (g.ex S.st).imp fun a s1 F1 H1 st1 w1 g1 v rv => ?_⟩
  refine ⟨F1, F0, H0, G, s1, w1, S.step st1, ((g1.mono st1.fs).ex (S.step st1).st).imp fun b s2 F2 H2 st2 w2 g2 u ru => ⟨v, u, rfl, ?_⟩⟩
  exact g2 F2 H2 _ st2.fs w2 ((S.putNew w st1 rv).putNew w1 st2 ru)
end
end
section
def drwAt (G : Sls) (i : Nat) : Bool := match G[i]? with
  | some (some (.fz .drw)) => true
  | _ => false
def gDr {α : Type} (i : Nat) (m : M α) : Sls -> M α := fun G => if drwAt G i then m else fail
def restM : M D := fun s => some (.ok (.int s.rest), s)
def turnM : M D := fun s => some (.ok (.int s.turn), s)
def popM : M D := fun s => match s.wide with
  | x :: r => some (.ok (.int x), { s with wide := r })
  | [] => none
def wideM : M Bool := fun s => some (.ok (decide (s.wide ≠ [])), s)
def putM (put : Int -> DS -> DS) (G : Sls) : D -> M Out
  | .int n => fun s => some (.ok (.next G), put n s)
  | _ => fail
def sDr (i : Nat) (put : Int -> DS -> DS) (f : SE) : SS := fun G => if drwAt G i then bnd (f G) (putM put G) else fail
def putRest (n : Int) (s : DS) : DS := { s with rest := n }
def putTurn (n : Int) (s : DS) : DS := { s with turn := n }
theorem drwAt_sl {K : PySem.W.Frag} {mg : Str -> Option Value} {wd : World} {dl : Dr wd K mg} {F0 H0 F H : Hp} {sg : L2.St} {G : Sls} {i : Nat} (S : Sim K mg dl F0 H0 F H sg G) (h : drwAt G i = true) : sg[i]? = some (some (.ref dl.a)) := by
  unfold drwAt at h
  split at h
  · rename_i e
    obtain ⟨v, h1, h2⟩ := S.sl i _ e
    rw [h1, show v = .ref dl.a from h2]
  · cases h
section
variable {X : Cx} {dl : Dr X.w X.K X.mg} {W : WX} {F H : Hp} {s : DS}
theorem Step.dr {b : Addr} {o : HO} (h : dl.has b) (e : ∃ u, H b = some u) : Step dl F H F (upd H b o) :=
  ⟨fun _ _ h => h, fun c u nc e => by rw [upd_ne (fun z => nc (by rw [z]; exact h))]; exact e, fun _ _ h => .inl h, fun c e' => by
    by_cases z : c = b
    · subst z; rw [upd_same] at e'; cases e'
    · rw [upd_ne z] at e'; exact e'⟩
theorem dk_ne {a b : Addr} {x : List (Key × V)} {y : List V} (h1 : H a = some (.dK x)) (h2 : H b = some (.lst y)) : a ≠ b := fun z => by rw [z, h2] at h1; cases h1
theorem wd_rest {n : Int} (w : Wd dl F H s) : Wd dl F (upd H dl.a (.dK [(Sum.inr "wide", .ref dl.w), (Sum.inr "cells", .ref dl.c), (Sum.inr "rest", .int n), (Sum.inr "turn", .int s.turn)])) (putRest n s) := by
  obtain ⟨d1, d2, d3, d4⟩ := w.dr
  refine ⟨fun b u e => ?_, w.off, ⟨upd_same, ?_, ?_, d4⟩, w.tb.upd (fun _ _ e => e) (fun q hq z => by
    obtain ⟨ps, h1, _⟩ := w.tb.at_ q hq
    rw [z, d1] at h1; cases h1) (fun _ z => by cases z) (.inl fun _ _ z => by unfold LamX.CodeO at z; cases z), w.ob.set (fun _ _ e => e) fun ac q hq m => by
    obtain ⟨C, dx, fs, z⟩ := w.ob.there ac m hq
    rw [d1] at z; cases z⟩
  · rw [upd_ne (fun z => by rw [z, w.off _ (.inl rfl)] at e; cases e)]; exact w.sub b u e
  · rw [upd_ne (Ne.symm (dk_ne d1 d2))]; exact d2
  · rw [upd_ne (Ne.symm (dk_ne d1 d3))]; exact d3
theorem wd_turn {n : Int} (w : Wd dl F H s) : Wd dl F (upd H dl.a (.dK [(Sum.inr "wide", .ref dl.w), (Sum.inr "cells", .ref dl.c), (Sum.inr "rest", .int s.rest), (Sum.inr "turn", .int n)])) (putTurn n s) := by
  obtain ⟨d1, d2, d3, d4⟩ := w.dr
  refine ⟨fun b u e => ?_, w.off, ⟨upd_same, ?_, ?_, d4⟩, w.tb.upd (fun _ _ e => e) (fun q hq z => by
    obtain ⟨ps, h1, _⟩ := w.tb.at_ q hq
    rw [z, d1] at h1; cases h1) (fun _ z => by cases z) (.inl fun _ _ z => by unfold LamX.CodeO at z; cases z), w.ob.set (fun _ _ e => e) fun ac q hq m => by
    obtain ⟨C, dx, fs, z⟩ := w.ob.there ac m hq
    rw [d1] at z; cases z⟩
  · rw [upd_ne (fun z => by rw [z, w.off _ (.inl rfl)] at e; cases e)]; exact w.sub b u e
  · rw [upd_ne (Ne.symm (dk_ne d1 d2))]; exact d2
  · rw [upd_ne (Ne.symm (dk_ne d1 d3))]; exact d3
end
section
variable {X : Cx} {dl : Dr X.w X.K X.mg} {W : WX} {e : Expr} {f : SE} {pos p q : Pos} {x : Str} {j : Nat}
theorem de_rest (i : Nat) (hu : X.A.units + 64 < cLine) (hN : X.N[i]? = some x := by rfl) (hv : Vis X.env.scope x := by first | exact Or.inl rfl | exact Or.inr (Or.inl rfl) | exact Or.inr (Or.inr rfl))
    (hd : (x == ("__debug__" : Str)) = false := by decide) (hcd : (x == ("__classdict__" : Str)) = false := by decide) : DE X dl W (.Subscript (.Name x p) (.Constant (.str "rest") j q) pos) (gDr i restM) := by
  refine PE.of (pe_dget (by omega) (pe_var hN hv hd hcd) pe_str (fun _ _ => rfl)) fun sg H Q q => ?_
  obtain ⟨F, F0, H0, G, s, w, S, g⟩ := q
  unfold gDr at g
  split at g
  · rename_i h
    exact ⟨.ref dl.a, drwAt_sl S h, dl.a, .int s.rest, rfl, .inl ⟨_, Sum.inr "rest", .inl w.dr.1, rfl, rfl⟩, g F H Step.refl w _ rfl⟩
  · exact g.elim
theorem de_turn (i : Nat) (hu : X.A.units + 64 < cLine) (hN : X.N[i]? = some x := by rfl) (hv : Vis X.env.scope x := by first | exact Or.inl rfl | exact Or.inr (Or.inl rfl) | exact Or.inr (Or.inr rfl))
    (hd : (x == ("__debug__" : Str)) = false := by decide) (hcd : (x == ("__classdict__" : Str)) = false := by decide) : DE X dl W (.Subscript (.Name x p) (.Constant (.str "turn") j q) pos) (gDr i turnM) := by
  refine PE.of (pe_dget (by omega) (pe_var hN hv hd hcd) pe_str (fun _ _ => rfl)) fun sg H Q q => ?_
  obtain ⟨F, F0, H0, G, s, w, S, g⟩ := q
  unfold gDr at g
  split at g
  · rename_i h
    exact ⟨.ref dl.a, drwAt_sl S h, dl.a, .int s.turn, rfl, .inl ⟨_, Sum.inr "turn", .inl w.dr.1, rfl, rfl⟩, g F H Step.refl w _ rfl⟩
  · exact g.elim
theorem ds_rest (i : Nat) {ap : Pos} (hu : X.A.units + 64 < cLine) (he : DE X dl W e f) (hN : X.N[i]? = some x := by rfl) (hv : Vis X.env.scope x := by first | exact Or.inl rfl | exact Or.inr (Or.inl rfl) | exact Or.inr (Or.inr rfl))
    (hd : (x == ("__debug__" : Str)) = false := by decide) (hcd : (x == ("__classdict__" : Str)) = false := by decide) (hs : swapsWith e (some (.Subscript (.Name x p) (.Constant (.str "rest") j q) ap)) pos.line X.env = pure false := by rfl) :
    DSt X dl W (.Assign [.Subscript (.Name x p) (.Constant (.str "rest") j q) ap] e pos) (sDr i putRest f) := by
  refine PS.of (ps_dput (by omega) (pe_var hN hv hd hcd) pe_str he hs) fun E sg H q => ?_
  obtain ⟨F0, H0, F, G, s, w, S, g⟩ := q
  unfold sDr at g
  split at g
  case isFalse => exact g.elim
  rename_i h
  refine ⟨F, F0, H0, G, s, w, S, (g.ex S.st).imp fun d s1 F1 H1 st1 w1 g1 v rv => ?_⟩
  have S1 := S.step st1
  cases d with
  | int n =>
    cases (show v = .int n from rv)
    refine ⟨.ref dl.a, drwAt_sl S1 h, dl.a, _, rfl, .inl ⟨_, Sum.inr "rest", w1.dr.1, rfl, ?_, rfl⟩, ?_⟩
    · show 4 < sizeLine; decide
    · have st2 : Step dl F1 H1 F1 (upd H1 dl.a (.dK [(Sum.inr "wide", .ref dl.w), (Sum.inr "cells", .ref dl.c), (Sum.inr "rest", .int n), (Sum.inr "turn", .int s1.turn)])) := Step.dr (.inl rfl) ⟨_, w1.dr.1⟩
      exact g1 F1 _ sg st1.fs (wd_rest w1) (S1.step st2)
  | _ => exact g1.elim
theorem ds_turn (i : Nat) {ap : Pos} (hu : X.A.units + 64 < cLine) (he : DE X dl W e f) (hN : X.N[i]? = some x := by rfl) (hv : Vis X.env.scope x := by first | exact Or.inl rfl | exact Or.inr (Or.inl rfl) | exact Or.inr (Or.inr rfl))
    (hd : (x == ("__debug__" : Str)) = false := by decide) (hcd : (x == ("__classdict__" : Str)) = false := by decide) (hs : swapsWith e (some (.Subscript (.Name x p) (.Constant (.str "turn") j q) ap)) pos.line X.env = pure false := by rfl) :
    DSt X dl W (.Assign [.Subscript (.Name x p) (.Constant (.str "turn") j q) ap] e pos) (sDr i putTurn f) := by
  refine PS.of (ps_dput (by omega) (pe_var hN hv hd hcd) pe_str he hs) fun E sg H q => ?_
  obtain ⟨F0, H0, F, G, s, w, S, g⟩ := q
  unfold sDr at g
  split at g
  case isFalse => exact g.elim
  rename_i h
  refine ⟨F, F0, H0, G, s, w, S, (g.ex S.st).imp fun d s1 F1 H1 st1 w1 g1 v rv => ?_⟩
  have S1 := S.step st1
  cases d with
  | int n =>
    cases (show v = .int n from rv)
    refine ⟨.ref dl.a, drwAt_sl S1 h, dl.a, _, rfl, .inl ⟨_, Sum.inr "turn", w1.dr.1, rfl, ?_, rfl⟩, ?_⟩
    · show 4 < sizeLine; decide
    · have st2 : Step dl F1 H1 F1 (upd H1 dl.a (.dK [(Sum.inr "wide", .ref dl.w), (Sum.inr "cells", .ref dl.c), (Sum.inr "rest", .int s1.rest), (Sum.inr "turn", .int n)])) := Step.dr (.inl rfl) ⟨_, w1.dr.1⟩
      exact g1 F1 _ sg st1.fs (wd_turn w1) (S1.step st2)
  | _ => exact g1.elim
theorem dpAll_ints {K : PySem.W.Frag} {H : Hp} : ∀ xs : List Int, DpAll K H (xs.map V.int) (xs.map PyData.int)
  | [] => .nil
  | x :: xs => .cons (.int x) (dpAll_ints xs)
theorem shaped_ints (xs : List Int) : SeqAt.shaped (.list (xs.map PyData.int)) = true := by
  have h1 : ∀ xs : List Int, PyData.canLayAll0 (xs.map PyData.int) = true := fun xs => by
    induction xs with
    | nil => rfl
    | cons x xs ih => simp [PyData.canLayAll0, PyData.canLay0, ih]
  have h2 : ∀ xs : List Int, PyData.depthAll (xs.map PyData.int) = 0 := fun xs => by
    induction xs with
    | nil => rfl
    | cons x xs ih => simp [PyData.depthAll, PyData.depth, ih]
  simp [SeqAt.shaped, PyData.canLay0, PyData.depth, h1, h2]
theorem pe_wide (i : Nat) (hu : X.A.units + 64 < cLine) (hN : X.N[i]? = some x := by rfl) (hv : Vis X.env.scope x := by first | exact Or.inl rfl | exact Or.inr (Or.inl rfl) | exact Or.inr (Or.inr rfl))
    (hd : (x == ("__debug__" : Str)) = false := by decide) (hcd : (x == ("__classdict__" : Str)) = false := by decide) (z : Str) : PE X (.Subscript (.Name x p) (.Constant (.str z) j q) pos) (tDGet (tVar i) (tC (.str z))) :=
  pe_dget (by omega) (pe_var hN hv hd hcd) pe_str (fun _ _ => rfl)
theorem de_popW (i : Nat) {ap cp p0 : Pos} {j0 : Nat} (hu : X.A.units + 64 < cLine) (hN : X.N[i]? = some x := by rfl) (hv : Vis X.env.scope x := by first | exact Or.inl rfl | exact Or.inr (Or.inl rfl) | exact Or.inr (Or.inr rfl))
    (hd : (x == ("__debug__" : Str)) = false := by decide) (hcd : (x == ("__classdict__" : Str)) = false := by decide)
    (hbase : attributeBase (.Subscript (.Name x p) (.Constant (.str "wide") j q) pos) "pop" X.env (eval (.Subscript (.Name x p) (.Constant (.str "wide") j q) pos) X.env) = eval (.Subscript (.Name x p) (.Constant (.str "wide") j q) pos) X.env := by rfl)
    (hfew : ((backTo cp (starEach [.Constant (.int 0) j0 p0] X.env)).all (fun x => !x.1) && (backToKw cp (keywordEach [] X.env)).all (fun x => x.1.isSome)
      && decide (([.Constant (.int 0) j0 p0] : List Expr).length + ([] : List Keyword).length + (if ([] : List Keyword).isEmpty then 0 else 1) < 30)) = true := by rfl)
    (hline : (ap.endLine == cp.line) = true := by rfl) :
    DE X dl W (.Call (.Attribute (.Subscript (.Name x p) (.Constant (.str "wide") j q) pos) "pop" ap) [.Constant (.int 0) j0 p0] [] cp) (gDr i popM) := by
  refine PE.of (pe_bm PySem.F.plainAttrs_list PySem.F.slot_list_pop PySem.F.type_list_pop mt_popAt (pe_wide i hu hN hv hd hcd "wide") (pa_cons pe_int pa_nil rfl) hbase hfew hline rfl rfl) fun sg H Q q => ?_
  obtain ⟨F, F0, H0, G, s, w, S, g⟩ := q
  unfold gDr at g
  split at g
  case isFalse => exact g.elim
  rename_i h
  obtain ⟨d1, d2, d3, d4⟩ := w.dr
  refine ⟨.ref dl.a, drwAt_sl S h, dl.a, .ref dl.w, rfl, .inl ⟨_, Sum.inr "wide", .inl d1, rfl, rfl⟩, .inl ⟨rfl, _, SqL.of d2⟩, ?_⟩
  unfold popM at g
  cases ew : s.wide with
  | nil => rw [ew] at g; exact g.elim
  | cons a r =>
    rw [ew] at g d2
    refine ⟨dl.w, _, 0, 0, .int a, rfl, rfl, d2, by decide, by decide, ?_, rfl, ?_⟩
    · simp [seqIndex?]
    · refine g F _ (Step.dr (.inr (.inl rfl)) ⟨_, d2⟩) ⟨fun b u e => ?_, w.off, ⟨?_, ?_, ?_, d4⟩, w.tb.upd (fun _ _ e => e) (fun q hq z => by
        obtain ⟨ps, h1, _⟩ := w.tb.at_ q hq
        rw [z, d2] at h1; cases h1) (fun _ z => by cases z) (.inl fun _ _ z => by unfold LamX.CodeO at z; cases z), w.ob.set (fun _ _ e => e) fun ac q hq m => by
        obtain ⟨C, dx, fs, z⟩ := w.ob.there ac m hq
        rw [d2] at z; cases z⟩ _ rfl
      · rw [upd_ne (fun z => by rw [z, w.off _ (.inr (.inl rfl))] at e; cases e)]; exact w.sub b u e
      · rw [upd_ne (dk_ne d1 d2)]; exact d1
      · exact upd_same
      · rw [upd_ne (Ne.symm d4)]; exact d3
theorem dt_wide (i : Nat) {p1 : Pos} (hu : X.A.units + 64 < cLine) (hN : X.N[i]? = some x := by rfl) (hv : Vis X.env.scope x := by first | exact Or.inl rfl | exact Or.inr (Or.inl rfl) | exact Or.inr (Or.inr rfl))
    (hd : (x == ("__debug__" : Str)) = false := by decide) (hcd : (x == ("__classdict__" : Str)) = false := by decide) {cp : Pos} : DT X dl W (.Compare (.Subscript (.Name x p) (.Constant (.str "wide") j q) pos) [.NotEq] [.List [] p1] cp) (gDr i wideM) := by
  refine PT.of (pt_cmpR (op_neD hu) (pe_wide i hu hN hv hd hcd "wide") (pe_lst pa_nil) rfl) fun sg H Q q => ?_
  obtain ⟨F, F0, H0, G, s, w, S, g⟩ := q
  unfold gDr at g
  split at g
  case isFalse => exact g.elim
  rename_i h
  obtain ⟨d1, d2, d3, d4⟩ := w.dr
  refine ⟨.ref dl.a, drwAt_sl S h, dl.a, .ref dl.w, rfl, .inl ⟨_, Sum.inr "wide", .inl d1, rfl, rfl⟩, Nat.zero_le _, fun l hl => ?_⟩
  have w' := w.newO (o := .lst []) hl
  obtain ⟨e1, e2, e3, e4⟩ := w'.dr
  have e0 : Dp X.K (upd H l (.lst [])) (.ref dl.w) (.list (s.wide.map PyData.int)) := .lst (SqL.of e2) (dpAll_ints _)
  refine ⟨_, .list [], e0, .lst (SqL.of upd_same) .nil, shaped_ints _, by decide, ?_⟩
  have eb : (!PyData.eqv (.list (s.wide.map PyData.int)) (.list [])) = decide (s.wide ≠ []) := by
    cases s.wide <;> simp [PyData.eqv, PyData.eqvAll]
  rw [eb]
  exact ⟨_, rfl, g F _ (Step.newO hl) w'⟩
def cutF (F : Hp) (a : Addr) : Hp := fun b => if b = a then none else F b
theorem cutF_some {F : Hp} {a b : Addr} {o : HO} (h : cutF F a b = some o) : b ≠ a /\ F b = some o := by
  unfold cutF at h
  by_cases z : b = a
  · rw [if_pos z] at h; cases h
  · rw [if_neg z] at h; exact ⟨z, h⟩
theorem cutF_ne {F : Hp} {a b : Addr} (z : b ≠ a) : cutF F a b = F b := if_neg z
def _root_.EK.Dr.dim {wd : World} {K : PySem.W.Frag} {mg : Str -> Option Value} (dl : Dr wd K mg) : Dr wd K mg := ⟨dl.a, dl.w, dl.c, dl.o, dl.ox, dl.tabs, dl.ms, false⟩
theorem dim_has {wd : World} {K : PySem.W.Frag} {mg : Str -> Option Value} {dl : Dr wd K mg} {b : Addr} (h : dl.dim.has b) : dl.has b := by
  rcases h with h | h | h | h | ⟨h, _⟩
  · exact .inl h
  · exact .inr (.inl h)
  · exact .inr (.inr (.inl h))
  · exact .inr (.inr (.inr (.inl h)))
  · cases h
theorem Wd.dim {wd : World} {K : PySem.W.Frag} {mg : Str -> Option Value} {dl : Dr wd K mg} {F H : Hp} {s : DS} (w : Wd dl F H s) : Wd dl.dim F H { s with live := false } := ⟨w.sub, fun b hb => w.off b (dim_has hb), w.dr, w.tb, fun z => (nomatch z), fun ac => (nomatch ac)⟩
theorem Rep.dim {wd : World} {K : PySem.W.Frag} {mg : Str -> Option Value} {dl : Dr wd K mg} {F : Hp} {d : D} {v : V} (r : Rep K mg dl F d v) : Rep K mg dl.dim F d v := Rep.dl (dl := dl) (dl' := dl.dim) ⟨rfl, rfl⟩ d v r
theorem Rep.undim {wd : World} {K : PySem.W.Frag} {mg : Str -> Option Value} {dl : Dr wd K mg} {F : Hp} {d : D} {v : V} (r : Rep K mg dl.dim F d v) : Rep K mg dl F d v := Rep.dl (dl := dl.dim) (dl' := dl) ⟨rfl, rfl⟩ d v r
theorem RepL.dim {wd : World} {K : PySem.W.Frag} {mg : Str -> Option Value} {dl : Dr wd K mg} {F : Hp} {ds : List D} {vs : List V} (r : RepL K mg dl F ds vs) : RepL K mg dl.dim F ds vs := RepL.dl (dl := dl) (dl' := dl.dim) ⟨rfl, rfl⟩ ds vs r
mutual
theorem TR.dim {wd : World} {K : PySem.W.Frag} {mg : Str -> Option Value} {dl : Dr wd K mg} {F H : Hp} : ∀ (t : T) (v : V) (as : List Addr), TR K mg dl F H t v as -> TR K mg dl.dim F H t v as
  | .fz d, v, as, h => ⟨h.1, h.2.dim⟩
  | .lst ts, v, as, h => by
    obtain ⟨a, vs, bs, h1, h2, h3, h4, h5⟩ := h
    exact ⟨a, vs, bs, h1, h2, h3, h4, TRL.dim ts vs bs h5⟩
  | .dct k ts, v, as, h => by
    obtain ⟨a, vs, bs, h1, h2, h3, h4, h5, h6⟩ := h
    exact ⟨a, vs, bs, h1, h2, h3, h4, h5, TRL.dim ts vs bs h6⟩
theorem TRL.dim {wd : World} {K : PySem.W.Frag} {mg : Str -> Option Value} {dl : Dr wd K mg} {F H : Hp} : ∀ (ts : List T) (vs : List V) (as : List Addr), TRL K mg dl F H ts vs as -> TRL K mg dl.dim F H ts vs as
  | [], _, _, h => h
  | t :: ts, vs, as, h => by
    obtain ⟨v, vs', a1, a2, h1, h2, h3, h4⟩ := h
    exact ⟨v, vs', a1, a2, h1, h2, TR.dim t v a1 h3, TRL.dim ts vs' a2 h4⟩
end
theorem Sim.dim {wd : World} {K : PySem.W.Frag} {mg : Str -> Option Value} {dl : Dr wd K mg} {F0 H0 F H : Hp} {sg : L2.St} {G : Sls} (S : Sim K mg dl F0 H0 F H sg G) : Sim K mg dl.dim (fun _ => none) (fun _ => none) F H sg G := by
  refine ⟨S.len, fun i sl e => ?_, S.dis, ⟨fun _ _ h => (nomatch h), fun _ _ _ h => (nomatch h), fun _ _ _ => .inr rfl, fun _ _ => rfl⟩, ?_⟩
  · obtain ⟨v, h1, h2⟩ := S.sl i sl e
    refine ⟨v, h1, ?_⟩
    cases sl with
    | fz d => exact Rep.dim h2
    | own ds =>
      obtain ⟨a, vs, m1, m2, m3, m4, m5, m6, m7⟩ := h2
      exact ⟨a, vs, m1, m2, m3, rfl, fun z => m5 (dim_has z), m6, m7.dim⟩
    | ini c ns ds =>
      obtain ⟨a, dx, C, vs, m1, m2, m3, m4, m5, m6, m7, m8, m9, m10, m11, m12, m13⟩ := h2
      exact ⟨a, dx, C, vs, m1, m2, m3, m4, m5, m6, rfl, rfl, fun z => m9 (dim_has z), fun z => m10 (dim_has z), m11, m12, m13.dim⟩
    | ownX k ds =>
      obtain ⟨a, vs, m1, m2, m3, m4, m5, m6, m7, m8⟩ := h2
      exact ⟨a, vs, m1, m2, m3, rfl, fun z => m5 (dim_has z), m6, m7, m8.dim⟩
    | ownP pp k ds =>
      obtain ⟨a, vs, m1, m2, m3, m4, m5, m6, m7, m8⟩ := h2
      exact ⟨a, vs, m1, m2, m3, rfl, fun z => m5 (dim_has z), m6, m7, m8.dim⟩
    | tree t => trivial
  · obtain ⟨fp, T⟩ := S.tr
    exact ⟨fp, fun i t e => by
      obtain ⟨v, q1, q2, q3, q4⟩ := T.at_ i t e
      exact ⟨v, q1, TR.dim t v _ q2, q3, fun a ha => ⟨(q4 a ha).1, rfl, fun z => (q4 a ha).2.2 (dim_has z)⟩⟩, T.dj, T.nx⟩
theorem ob_back {wd : World} {K : PySem.W.Frag} {mg : Str -> Option Value} {dl : Dr wd K mg} {F F1 H F' F2 H' : Hp} {s : DS} (w0 : Wd dl F H s) (st : Step dl.dim F1 H F' H') (sm : Same F F2) : ObOk dl F2 H' s := by
  refine w0.ob.mono sm fun ac b q m hq => ?_
  obtain ⟨C, dx, fs, z⟩ := w0.ob.there ac m hq
  have nd : ¬ dl.dim.has b := fun y => by
    obtain ⟨d1, d2, d3, _⟩ := w0.dr
    rcases y with y | y | y | ⟨r, y⟩ | ⟨y, _⟩
    · have y : b = dl.a := y
      rw [y, d1] at z; cases z
    · have y : b = dl.w := y
      rw [y, d2] at z; cases z
    · have y : b = dl.c := y
      rw [y, d3] at z; cases z
    · obtain ⟨ps, h4, _⟩ := w0.tb.at_ _ y
      rw [h4] at z; cases z
    · cases y
  rw [z]
  exact st.hs b _ nd z
theorem off_back {wd : World} {K : PySem.W.Frag} {mg : Str -> Option Value} {dl : Dr wd K mg} {F F1 H F' H' : Hp} {s s' : DS} (w0 : Wd dl F H s) (st : Step dl.dim F1 H F' H') (w : Wd dl.dim F' H' s') (hf : ∀ b, dl.has b -> F1 b = none) : ∀ b, dl.has b -> F' b = none := fun b hb => by
  by_cases z : dl.dim.has b
  · exact w.off b z
  · cases e : F' b with
    | none => rfl
    | some u =>
      rcases st.nw b u e with h | h
      · rw [hf b hb] at h; cases h
      · exact absurd hb (w0.na h)
def _root_.EK.noErrK {α : Type} (m : M α) : M α := fun s => match m { s with live := false } with
  | some (.ok a, s') => some (.ok a, { s' with objs := s.objs, live := s.live })
  | _ => none
@[simp] theorem _root_.EK.noErrK_ret {α : Type} (a : α) : noErrK (ret a) = ret a := rfl
theorem lent {F H F' H' : Hp} {a : Addr} {o : HO} {s s' : DS} (nd : ¬ dl.has a) (n : F a = none) (ho : ∀ c q, o ≠ LamX.CodeO c q) (w0 : Wd dl F H s) (st : Step dl.dim (upd F a o) H F' H') (w : Wd dl.dim F' H' s') : Step dl F H (cutF F' a) H' /\ Wd dl (cutF F' a) H' { s' with objs := s.objs, live := s.live } := by
  have fs : Same F (cutF F' a) := fun b u e => by
    have z : b ≠ a := ne_of_none e n
    rw [cutF_ne z]
    exact st.fs b u (by rw [upd_ne z]; exact e)
  refine ⟨⟨fs, fun b u nb e => st.hs b u (fun z => nb (dim_has z)) e, fun b u e => ?_, st.al⟩, ⟨fun b u e => w.sub b u (cutF_some e).2, fun b hb => ?_, w.dr, by
    have nc : ∀ b c q, F' b = some (LamX.CodeO c q) -> b ≠ a := fun b c q e z => by
      subst z
      have y := st.fs b o upd_same
      rw [e] at y
      cases y
      exact ho _ _ rfl
    refine ⟨fun p hp => ?_, w.tb.nt, fun b c q e => ?_⟩
    · obtain ⟨ps, h1, h2, h3⟩ := w.tb.at_ p hp
      refine ⟨ps, h1, h2, fun pos cv hc => ?_⟩
      obtain ⟨c, e1, e2⟩ := h3 pos cv hc
      exact ⟨c, e1, by rw [cutF_ne (nc _ _ _ e2)]; exact e2⟩
    · have e2 := w.tb.cd b c q e
      rw [cutF_ne (nc _ _ _ e2)]; exact e2, show ObOk dl _ H' s from ob_back w0 st fs⟩⟩
  · obtain ⟨z, e'⟩ := cutF_some e
    rcases st.nw b u e' with h | h
    · rw [upd_ne z] at h; exact .inl h
    · exact .inr h
  · unfold cutF
    split
    · rfl
    · exact off_back w0 st w (fun b hb => by rw [upd_ne fun z => nd (by rw [<- z]; exact hb)]; exact w0.off b hb) b hb
def flatD : D -> Bool
  | .non => true
  | .bl _ => true
  | .int _ => true
  | .str _ => true
  | _ => false
theorem flatD_rep {K : PySem.W.Frag} {mg : Str -> Option Value} {wd : World} {dl : Dr wd K mg} {F F' : Hp} {d : D} {v : V} (h : flatD d = true) (r : Rep K mg dl F d v) : Rep K mg dl F' d v := by
  cases d <;> first | exact r | cases h
def g2O (g : D -> D -> Option D) (i : Nat) (fb : SE) : SE := fun G => bnd (ofO (ownAt G i)) fun ds => bnd (fb G) fun y => ofO (g (.lst ds) y)
def g2O' (g : D -> D -> Option D) (fa : SE) (i : Nat) : SE := fun G => bnd (fa G) fun y => bnd (ofO (ownAt G i)) fun ds => ofO (g y (.lst ds))
end
end
section
def sForC (i : Nat) (a : SG) (b : SS) : SS := fun G => if drwAt G i then (fun s => forM a b (s.cells.map D.int) G s) else fail
def Still (b : SS) : Prop := ∀ G s r s', b G s = some (r, s') -> s' = s
section
variable {X : Cx} {dl : Dr X.w X.K X.mg} {W : WX} {pos p q : Pos} {x : Str} {j : Nat}
theorem ds_forC (i : Nat) {tg : Expr} {body : List Stmt} {is : List Nat} {a : SG} {b : SS} {p0 : Pos} (hu : X.A.units + 64 < cLine) (hp : PassesOwn (model X.prog X.w) X.A X.env X.xe) (hc : X.calm = true) (hg : DG X dl tg is a) (hb : DSs X dl W body b) (hst : Still b)
    (hN : X.N[i]? = some x := by rfl) (hv : Vis X.env.scope x := by first | exact Or.inl rfl | exact Or.inr (Or.inl rfl) | exact Or.inr (Or.inr rfl))
    (hd : (x == ("__debug__" : Str)) = false := by decide) (hcd : (x == ("__classdict__" : Str)) = false := by decide)
    (h1 : ∀ z, foldedSetIterable (.Subscript (.Name x p) (.Constant (.str "cells") j q) p0) X.env z = pure z := by intro _; rfl) : DSt X dl W (.For tg (.Subscript (.Name x p) (.Constant (.str "cells") j q) p0) body [] pos) (sForC i a b) := by
  refine PS.of (ps_for hp hc (pi_any (pe_wide i hu hN hv hd hcd "cells")) hg hb h1) fun E sg H q => ?_
  obtain ⟨F0, H0, F, G, s, w, S, g⟩ := q
  unfold sForC at g
  split at g
  case isFalse => exact g.elim
  rename_i h
  have g : GoS X dl W F0 H0 F (forM a b (s.cells.map D.int) G s) E := g
  obtain ⟨d1, d2, d3, d4⟩ := w.dr
  refine ⟨.ref dl.a, drwAt_sl S h, dl.a, .ref dl.c, rfl, .inl ⟨_, Sum.inr "cells", .inl d1, rfl, rfl⟩, .inl ⟨dl.c, rfl, ⟨_, SqL.of d3⟩, ?_⟩⟩
  refine for_it (n := (s.cells.map V.int).length) (G := fun H2 => SqL X.K H2 dl.c (s.cells.map V.int)) walk_list (fun i sg' H' => ∃ (F' : Hp) (G' : Sls), Wd dl F' H' s /\ Sim X.K X.mg dl F0 H0 F' H' sg' G' /\ GoS X dl W F0 H0 F' (forM a b ((s.cells.map D.int).drop i) G' s) E) ?_ ?_ ?_ ?_
  · exact ⟨F, G, w, S, by simpa using g⟩
  · rintro i sg' H' _ ⟨F', G', w', S', _⟩
    exact SqL.of w'.dr.2.2.1
  · rintro i y sg' H' H2 hi ⟨F', G', w', S', go⟩ ⟨e1, e2⟩
    subst e1
    have hlt : i < (s.cells.map D.int).length := by simpa using hi
    obtain ⟨c, ec, ey⟩ : ∃ c, s.cells[i]? = some c /\ y = .int c := by
      rw [List.getElem?_map] at e2
      cases e : s.cells[i]? with
      | none => rw [e] at e2; cases e2
      | some c => rw [e] at e2; cases e2; exact ⟨c, rfl, rfl⟩
    have ed : (s.cells.map D.int).drop i = .int c :: (s.cells.map D.int).drop (i + 1) := by
      rw [List.drop_eq_getElem_cons hlt]
      have : (s.cells.map D.int)[i] = .int c := by
        have z : (s.cells.map D.int)[i]? = some (.int c) := by rw [List.getElem?_map, ec]; rfl
        rw [List.getElem?_eq_getElem hlt] at z
        exact Option.some.inj z
      rw [this]
    rw [ed] at go
    obtain ⟨G2, eG, go2⟩ := GoS.ofO go
    refine ⟨F0, H0, F', G', s, .int c, G2, w', S', ey, eG, fun sg2 _ S2 => ⟨F0, H0, F', G2, s, w', S2, ?_⟩⟩
    unfold bnd at go2
    cases eb : b G2 s with
    | none => rw [eb] at go2; exact go2.elim
    | some pr =>
      obtain ⟨r, s3⟩ := pr
      cases hst G2 s r s3 eb
      rw [eb] at go2
      cases r with
      | err ex => exact go2
      | ok o =>
        cases o with
        | next G3 => exact fun F3 H3 sg3 sm3 w3 S3 => ⟨F3, G3, w3, S3, go2.mono sm3⟩
        | cont G3 => exact fun F3 H3 sg3 sm3 w3 S3 => ⟨F3, G3, w3, S3, go2.mono sm3⟩
        | brk G3 => exact go2
        | ret d => exact go2
  · rintro sg' H' ⟨F', G', w', S', go⟩
    rw [show (s.cells.map D.int).drop (s.cells.map V.int).length = [] by simp] at go
    exact go F' H' sg' (fun _ _ h => h) w' S'
def intD : List D -> Option D
  | [.int i] => some (.int i)
  | [.bl k] => some (.int (if k then 1 else 0))
  | _ => none
theorem cd_int : CallR X (.type "int") (rCD X dl intD) := by
  refine rc_of call_int1 fun xs H Q F s ds d w ra e k => ?_
  unfold intD at e
  split at e
  · cases e
    obtain ⟨v, rfl, r⟩ := repL1 ra
    exact .inl ⟨_, by rw [show v = .int _ from r], k F H _ Step.refl w rfl⟩
  · cases e
    obtain ⟨v, rfl, r⟩ := repL1 ra
    exact .inr ⟨_, by rw [show v = .bl _ from r], k F H _ Step.refl w rfl⟩
  · cases e
def powD := iopC (fun i j => decide (0 <= j /\ j <= 1000000 /\ i.natAbs < 2 ^ 64)) fun i j => .int (i ^ j.toNat)
theorem od_pow : OpR X (binaryOp .Pow) (rD X dl powD) := op_iopC op_pow (fun i j h => (of_decide_eq_true h : 0 <= j /\ j <= 1000000 /\ i.natAbs < 2 ^ 64)) fun _ _ _ => rfl
end
end
section
section
variable {X : Cx} {dl : Dr X.w X.K X.mg} {W : WX}
def asLen : D -> M D
  | .int n => if 0 <= n /\ n < 2 ^ 63 then ret (.int n) else fail
  | _ => fail
def lenC (c : Str) (fm : List D -> M D) : List D -> M D
  | [d] => if isC c d then bnd (fm [d]) asLen else fail
  | _ => fail
theorem cd_lenOwn {c : Str} {k : Nat} {fm : List D -> M D} (h : OpF X.prog X.w X.K X.mg X.base c "__len__" k 0 fm) (hr : Room (k + 1) X.A) : CallR X (.builtin "len") (rCM X dl (lenC c fm)) := by
  obtain ⟨C, g, fd, ps, h1, h2, h3, h4, h5, h6, h7, h8⟩ := h.ex
  intro pins s sg H xs us Q I rv z
  obtain ⟨F, st, ds, w, ra, go⟩ := z
  unfold lenC at go
  split at go
  case h_2 => exact go.elim
  rename_i d
  cases hb : isC c d with
  | false => rw [hb, if_neg Bool.false_ne_true] at go; exact go.elim
  | true =>
    rw [hb, if_pos rfl] at go
    obtain ⟨v, rfl, ra'⟩ := repL1 ra
    obtain ⟨a1, dx, fs, rfl, ha, _⟩ := obj_at h1 w.sub hb ra'
    obtain ⟨u, rfl, ru⟩ := rv.one
    cases (show u = Value.ref a1 from ru)
    obtain ⟨od, J⟩ := inst_of I ha
    refine Calls.call_function_entry kind_len plain_len entry_len (args_len1 _) ?_
    unfold Builtin.«len»
    refine wpAny_bind (m := oneArg "len" _) (wpAny_pure ?_)
    have hf : PySem.W.typeIn X.K (.ref g) = some (.type "function") := beq_iff_eq.mp h4
    refine wpAny_bind (m := callSpecial? (.ref a1) (PySem.Str.ofString "__len__")) (PySem.W.special_fn I.kIn J h3 hf (wpAny_mono (wpAny_call (SlX.run_at (us := [.ref a1]) (ws := [.ref a1]) (Q := fun z H' => ∃ n : Int, z = .int n /\ 0 <= n /\ n < 2 ^ 63 /\ Q z H') (E := E0) (h8.raw h7 .nil) hr.in1 I.env0.in1 passL I (.cons rfl .nil) ?_)) (fun z s' hz => ?_) fun _ _ e => e))
    · refine ⟨rfl, dl, F, [d], st, w, ra, ?_⟩
      refine (Go.bnd go).imp fun r s1 F1 H1 st1 w1 g1 v rv => ?_
      cases r with
      | int n =>
        have g1 : Go X.mg X.K dl (fun _ _ _ => False) F1 H1 ((if 0 <= n /\ n < 2 ^ 63 then ret (D.int n) else fail : M D) s1) (fun d _ F' H' => ∀ v, Rep X.K X.mg dl F' d v -> Q v H') := g1
        by_cases c : 0 <= n /\ n < 2 ^ 63
        · rw [if_pos c] at g1
          cases (show v = .int n from rv)
          exact ⟨n, rfl, c.1, c.2, g1.ret w1 _ rfl⟩
        · rw [if_neg c] at g1; exact g1.elim
      | _ => exact g1.elim
    · obtain ⟨z', H', I', rz, n, rfl, c1, c2, q⟩ := hz
      obtain ⟨t, rfl⟩ := (show ∃ t, z = Value.int n t from rz)
      refine wpAny_bind (wpAny_holding (wpAny_pure ?_))
      refine wpAny_bind (wpAny_letGo ?_)
      show wpAny _ _ (if n < 0 then _ else _) _ _ _
      rw [if_neg (by omega)]
      show wpAny _ _ (if n >= 2 ^ 63 then _ else _) _ _ _
      rw [if_neg (by omega)]
      exact wpAny_bind (wpAny_mkInt (wpAny_pure ⟨_, rfl, .int n, H', I'.tok _, ⟨_, rfl⟩, q⟩))
end
end
section
section
variable {fa : List He.Fa} {fn : List He.DefD} {fx : List Fx} {K : PySem.W.Frag} {h : Heap} {mg : Str -> Option Value}
theorem SaysX.fact (c : SaysX fa fn fx K) (i : Nat) {f : Fx} (h : fx[i]? = some f := by rfl) : f.ok K = true := List.all_eq_true.mp c.x f (List.mem_of_getElem? h)
theorem clsB_ok {C : Addr} (h : clsB K C = true) : PySem.W.findIn K (.ref C) "__class__" = some (some (.builtin "object.__class__")) /\ PySem.W.specialIn K (.builtin "object.__class__") "__get__" = some (some (.builtin "getset_descriptor.__get__")) /\
    PySem.W.takesIn K (.builtin "object.__class__") = some true /\ PySem.W.mroIn K C (.type "object") = some true := by
  unfold clsB at h
  obtain ⟨h1, h⟩ := He.ba h
  obtain ⟨h2, h⟩ := He.ba h
  obtain ⟨h3, h4⟩ := He.ba h
  exact ⟨He.eqO_ok h1, He.eqO_ok h2, of_decide_eq_true h3, of_decide_eq_true h4⟩
theorem isi_ok {x : Str} {t : Ty} {b : Bool} (gl : mg x = some (.ref (He.ga K x))) (cl : Cls K (He.ga K x)) (c : (Fx.isi x t b).ok K = true) : IsiF K mg x (t.val K) b := by
  obtain ⟨c1, c2⟩ := He.ba c
  obtain ⟨h1, h2, h3, h4⟩ := clsB_ok c1
  exact ⟨_, gl, cl, h1, h2, h3, h4, of_decide_eq_true c2⟩
theorem lookup_mem {α : Type} {l : List (String × α)} {t : String} {b : α} (h : l.lookup t = some b) : (t, b) ∈ l := by
  induction l with
  | nil => cases h
  | cons p l ih =>
    obtain ⟨x, y⟩ := p
    rw [List.lookup_cons] at h
    split at h
    · rename_i e
      cases h
      rw [beq_iff_eq.mp e]
      exact List.mem_cons_self
    · exact List.mem_cons_of_mem _ (ih h)
theorem kits_ok {u : Ty} {tbl : List (String × Bool)} (c : (Fx.kits u tbl).ok K = true) : ∀ t b, tbl.lookup t = some b -> PySem.W.kitOne K (.type t) (u.val K) = some b := fun t b h =>
  of_decide_eq_true (List.all_eq_true.mp (show (tbl.all fun p => decide (PySem.W.kitOne K (.type p.1) (u.val K) = some p.2)) = true from c) (t, b) (lookup_mem h))
theorem kitsT_ok {us : List Ty} {tbl : List (String × Bool)} (c : (Fx.kitsT us tbl).ok K = true) : ∀ t b, tbl.lookup t = some b -> PySem.W.kitAny K (.type t) (us.map (Ty.val K)) = some b := fun t b h =>
  of_decide_eq_true (List.all_eq_true.mp (show (tbl.all fun p => decide (PySem.W.kitAny K (.type p.1) (us.map (Ty.val K)) = some p.2)) = true from c) (t, b) (lookup_mem h))
variable {P : Program} {w : World} {base : Heap} {x m : Str} {k n : Nat} {fm : List D -> M D} {fd : FuncData} {ps : List Str}
theorem opr_of (gl : mg x = some (.ref (He.ga K x))) (cl : Cls K (He.ga K x)) (c : (Fx.opr x m).ok K = true) (hl : ps.length = n + 1) (hb : Binds K fd ps []) (F : FnOk P w K mg base (L2.CX P w) k (He.ma K (He.ga K x) m) fd ps (spD K mg w (n + 1) fm)) : OpF P w K mg base x m k n fm := by
  obtain ⟨c1, c2⟩ := He.ba c
  obtain ⟨c2, c3⟩ := He.ba c2
  exact ⟨_, _, fd, ps, gl, cl, He.eqO_ok c1, c2, c3, hl, hb, F⟩
theorem meth_of (gl : mg x = some (.ref (He.ga K x))) (cl : Cls K (He.ga K x)) (c : (He.Fa.meth x m).ok K = true) (hl : ps.length = n + 1) (hb : Binds K fd ps []) (F : FnOk P w K mg base (L2.CX P w) k (He.ma K (He.ga K x) m) fd ps (spD K mg w (n + 1) fm)) : MethF P w K mg base x m k n fm :=
  ⟨_, _, fd, ps, gl, cl, He.meth_ok c, hl, hb, F⟩
theorem make_of {mm : List D -> M (List Str × List D)} (gl : mg x = some (.ref (He.ga K x))) (c : (He.Fa.mkr x).ok K = true) (hl : ps.length = n + 1) (hb : Binds K fd ps []) (F : FnOk P w K mg base (L2.CX P w) k (He.ma K (He.ga K x) "__init__") fd ps (spI K mg w x n mm)) : MkF P w K mg base x k n mm :=
  ⟨_, _, fd, ps, gl, He.mkr_ok c, hl, hb, F⟩
theorem def_of (gl : mg x = some (.ref (He.ga K x))) (kp : PySem.W.keepIn K (.ref (He.ga K x)) = true) (hl : ps.length = n) (hb : Binds K fd ps []) (F : FnOk P w K mg base (L2.CX P w) k (He.ga K x) fd ps (spD K mg w n fm)) : DFn P w K mg base x k n fm :=
  ⟨_, fd, ps, gl, kp, hl, hb, F⟩
end
end
section
theorem hu64 {k : Nat} {A : Around} (r : Room k A) : A.units + 64 < cLine := by have := r.un; omega
theorem hu65 {k : Nat} {A : Around} (r : Room k A) : A.units + 65 < cLine := by have := r.un; omega
theorem no_cls {K : PySem.W.Frag} {mg : Str -> Option Value} {T : Value} : ∀ c b, ([] : List (Str × Bool)).lookup c = some b -> IsiF K mg c T b := fun _ _ h => nomatch h
theorem no_clsT {K : PySem.W.Frag} {mg : Str -> Option Value} {us : List Value} : ∀ c b, ([] : List (Str × Bool)).lookup c = some b -> IsiT K mg c us b := fun _ _ h => nomatch h
theorem one_cls {K : PySem.W.Frag} {mg : Str -> Option Value} {T : Value} {x : Str} {k : Bool} {l : List (Str × Bool)} (h0 : IsiF K mg x T k) (h1 : ∀ c b, l.lookup c = some b -> IsiF K mg c T b) : ∀ c b, ((x, k) :: l).lookup c = some b -> IsiF K mg c T b := fun c b h => by
  rw [List.lookup_cons] at h
  split at h
  · rename_i e
    cases h
    rw [beq_iff_eq.mp e]
    exact h0
  · exact h1 c b h
def gLD (r : SA) : SA := fun G => bnd (r G) fun ds => ofO (if ds.length <= sizeLine then some ds else none)
def sFldC (c nm : Str) (f : SE) : SS := fun G => match (G[0]? : Option (Option Sl)) with
  | some (some (.ini c' _ _)) => if c' = c then sFldI nm f G else fail
  | _ => fail
section
variable {X : Cx} {dl : Dr X.w X.K X.mg} {W : WX} {pos p p2 pos' : Pos} {e : Expr} {es : List Expr} {f : SE} {ra : SA} {x : Str} {id : String}
theorem deo_lstD {r : SA} (h : DA X dl W es r) : DEO X dl W (.List es pos) (gLD r) := deo_lst h
theorem ds_fldC {c nm : Str} (h : FldF X.K X.mg c nm) (he : DE X dl W e f) (hN : X.N[0]? = some x := by rfl) (hv : Vis X.env.scope x := by first | exact Or.inl rfl | exact Or.inr (Or.inl rfl) | exact Or.inr (Or.inr rfl)) (hd : (x == ("__debug__" : Str)) = false := by decide)
    (hcd : (x == ("__classdict__" : Str)) = false := by decide) (hs : swapsWith e (some (.Attribute (.Name x p2) nm pos')) pos.line X.env = pure false := by rfl) :
    DSt X dl W (.Assign [.Attribute (.Name x p2) nm pos'] e pos) (sFldC c nm f) := ds_fldI h (pe_var hN hv hd hcd) he hs
theorem de_callBM {gm : List D -> M D} (hc : CallR X (.builtin id) (rCM X dl gm)) (hg : Gl X x) (hm : X.mg x = none) (hv : bootBuiltins x = some (.builtin id)) (ha : DA X dl W (e :: es) ra) (hn : x ≠ "__name__" := by decide) (hdb : (x == ("__debug__" : Str)) = false := by decide)
    (he : starEach (e :: es) X.env = (false, eval e X.env) :: starEach es X.env := by rfl) (hpl : (backTo pos (starEach es X.env)).any (·.1) = false := by rfl) : DE X dl W (.Call (.Name x p) (e :: es) [] pos) (gCM gm ra) := by
  refine PE.of (pe_callB hc hg hm hv ha hn hdb he hpl) fun sg H Q q => ?_
  obtain ⟨F, q⟩ := q
  refine ⟨F, q.bnd.imp fun ds F1 H1 ⟨st1, q1⟩ vs rvs => ?_⟩
  obtain ⟨F0, H0, G, s, w, S, g⟩ := q1
  exact ⟨F1, s, ds, w, rvs, Go.noErr g⟩
end
theorem bb_len : bootBuiltins "len" = some (.builtin "len") := by decide +kernel
theorem bb_all : bootBuiltins "all" = some (.builtin "all") := by decide +kernel
theorem bb_any : bootBuiltins "any" = some (.builtin "any") := by decide +kernel
theorem bb_min : bootBuiltins "min" = some (.builtin "min") := by decide +kernel
theorem bb_abs : bootBuiltins "abs" = some (.builtin "abs") := by decide +kernel
theorem bb_sorted : bootBuiltins "sorted" = some (.builtin "sorted") := by decide +kernel
theorem bb_tuple : bootBuiltins "tuple" = some (.type "tuple") := by decide +kernel
theorem bb_list : bootBuiltins "list" = some (.type "list") := by decide +kernel
theorem bb_int : bootBuiltins "int" = some (.type "int") := by decide +kernel
theorem bb_str : bootBuiltins "str" = some (.type "str") := by decide +kernel
theorem bb_bool : bootBuiltins "bool" = some (.type "bool") := by decide +kernel
theorem lenN : ∀ (G : Sls) (ds : List D) (G' : Sls), sgNil G ds = some G' -> ds.length = 0 := fun G ds G' h => by
  cases ds with
  | nil => rfl
  | cons a l => cases h
theorem lenK {f : SG} {r : Sls -> List D -> Option Sls} {n : Nat} (h : ∀ (G : Sls) (ds : List D) (G' : Sls), r G ds = some G' -> ds.length = n) : ∀ (G : Sls) (ds : List D) (G' : Sls), sgCons f r G ds = some G' -> ds.length = n + 1 := fun G ds G' e => by
  cases ds with
  | nil => cases e
  | cons a l =>
    have e : ((f G a).bind fun G1 => r G1 l) = some G' := e
    cases q : f G a with
    | none => rw [q] at e; cases e
    | some G1 =>
      rw [q] at e
      rw [List.length_cons, h G1 l G' e]
def Stl {α : Type} (m : M α) : Prop := ∀ s r s', m s = some (r, s') -> s' = s
theorem stl_ret {α : Type} {a : α} : Stl (ret a) := fun s r s' h => by cases h; rfl
theorem stl_fail {α : Type} : Stl (fail : M α) := fun s r s' h => by cases h
theorem stl_ofO {α : Type} {o : Option α} : Stl (ofO o) := by
  cases o with
  | none => exact stl_fail
  | some a => exact stl_ret
theorem stl_bnd {α β : Type} {m : M α} {k : α -> M β} (h1 : Stl m) (h2 : ∀ a, Stl (k a)) : Stl (bnd m k) := fun s r s' h => by
  unfold bnd at h
  cases e : m s with
  | none => rw [e] at h; cases h
  | some p =>
    obtain ⟨r1, s1⟩ := p
    rw [e] at h
    cases h1 s r1 s1 e
    cases r1 with
    | err x => cases h; rfl
    | ok a => exact h2 a s r s' h
theorem stl_gv {i : Nat} {G : Sls} : Stl (gv i G) := by
  unfold gv
  split
  · exact stl_ret
  · exact stl_fail
theorem stl_g2 {g : D -> D -> Option D} {fa fb : SE} {G : Sls} (ha : Stl (fa G)) (hb : Stl (fb G)) : Stl (g2 g fa fb G) := stl_bnd ha fun _ => stl_bnd hb fun _ => stl_ofO
theorem stl_gC {g : List D -> Option D} {fa : SA} {G : Sls} (ha : Stl (fa G)) : Stl (gC g fa G) := stl_bnd ha fun _ => stl_ofO
theorem stl_saC {f : SE} {r : SA} {G : Sls} (ha : Stl (f G)) (hb : Stl (r G)) : Stl (saC f r G) := stl_bnd ha fun _ => stl_bnd hb fun _ => stl_ret
theorem stl_sa0 {G : Sls} : Stl (sa0 G) := stl_ret
theorem still_asg {f : SE} {a : SG} (h : ∀ G, Stl (f G)) : Still (sAsg f a) := fun G => stl_bnd (h G) fun _ => stl_bnd stl_ofO fun _ => stl_ret
section
variable {X : Cx} {dl : Dr X.w X.K X.mg} {W : WX} {a b : Expr} {c1 c2 : V} {p p' pos : Pos} {x : Str}
theorem pa_ty2 (h1 : PE X a (tC c1)) (h2 : PE X b (tC c2)) (hs : starEach [a, b] X.env = (false, eval a X.env) :: starEach [b] X.env := by rfl) (hs2 : starEach [b] X.env = (false, eval b X.env) :: starEach [] X.env := by rfl) : PA X [a, b] (fun _ H Q => Q [c1, c2] H) := pa_cons h1 (pa_cons h2 pa_nil hs2) hs
end
end
section
def absI (g : Int) : Int := if g < 0 then -g else g
def wideOf (ns : List Int) : List Int := (ns.filter fun g => decide (10 ^ 18 <= absI g)).map fun g => absI g - 10 ^ 18
def cellsOf (ns : List Int) : List Int := ns.map fun g => absI g % 2147483629
def ds0 (ns : List Int) : DS := ⟨wideOf ns, cellsOf ns, 0, 0, [], true⟩
structure Begun {wd : World} {K : PySem.W.Frag} {mg : Str -> Option Value} (dl : Dr wd K mg) (H H' : Hp) (ns : List Int) : Prop where
  kp : ∀ b o, H b = some o -> H' b = some o
  al : ∀ b, H' b = none -> H b = none
  nt : ∀ b o, H' b = some o -> H b = some o \/ (NotTbl o /\ NotCode o)
  na : H dl.a = none
  nw : H dl.w = none
  nc : H dl.c = none
  ok : DrawOk dl H' (ds0 ns)
  mz : dl.ms = []
  ac : dl.act = true
def spB (K : PySem.W.Frag) (mg : Str -> Option Value) (w : World) : Sp := fun vs H Q _ => ∃ (a : Addr) (ns : List Int), vs = [.ref a] /\ SqL K H a (ns.map V.int) /\ ns.length <= 63 /\ ∀ (dl : Dr w K mg) (H' : Hp), Begun dl H H' ns -> Q (.ref dl.a) H'
theorem lc_ints {K : PySem.W.Frag} {J : It} {ns : List Int} {a : Addr} {H1 : Hp} {D : Addr} {g : TG} {tt : TT} {te : TE} {vs : List Nat} {sg : L2.St} {Qd : Hp -> Prop} (t : Int -> Bool) (f : Int -> Int)
    (wk : Walk J (ns.map V.int).length (fun H2 => SqL K H2 a (ns.map V.int)) (YAt (ns.map V.int))) (hs : SqL K H1 a (ns.map V.int)) (hD : H1 D = none) (hl : ns.length <= 63)
    (step : ∀ (n : Int) (H' : Hp) (P : Hp -> Prop) (acc : List V), H' D = some (.lst acc) -> acc.length < sizeLine -> (t n = true -> P (upd H' D (.lst (acc ++ [.int (f n)])))) -> (t n = false -> P H') -> g (.int n) (wipe sg vs) H' fun s2 H2 => wipe s2 vs = wipe sg vs /\ tt s2 H2 fun b H3 =>
      if b = true then te s2 H3 fun y H4 => ∃ acc, H4 D = some (.lst acc) /\ acc.length < sizeLine /\ P (upd H4 D (.lst (acc ++ [y]))) else P H3)
    (hd : Qd (upd H1 D (.lst (((ns.filter t).map f).map V.int)))) :
    ∃ W : Nat -> Nat -> Hp -> Prop, (∃ m, W 0 m (upd H1 D (.lst []))) /\ ∀ i m H, W i m H ->
      (J.stop i H /\ Qd H) \/ (J.go i H /\ ∃ Nx : Hp -> Prop, (∀ H', Nx H' -> ∃ m', m' < m /\ W (i + 1) m' H') /\ ∀ x H', J.yld i H x H' -> g x (wipe sg vs) H' fun s2 H2 => wipe s2 vs = wipe sg vs /\ tt s2 H2 fun b H3 =>
        if b = true then te s2 H3 fun y H4 => ∃ acc, H4 D = some (.lst acc) /\ acc.length < sizeLine /\ Nx (upd H4 D (.lst (acc ++ [y]))) else Nx H3) := by
  have sz : 1000 < sizeLine := by rw [sizeLine_eq]; omega
  refine lc_it wk (fun i H' => H' = upd H1 D (.lst ((((ns.take i).filter t).map f).map V.int))) rfl ?_ ?_ ?_
  · rintro i H' _ rfl
    exact L2.Same.seq (fun b o e => by rw [upd_ne (ne_of_none e hD)]; exact e) hs
  · rintro i x H' H2 hi rfl ⟨rfl, e⟩
    rw [List.getElem?_map] at e
    cases en : ns[i]? with
    | none => rw [en] at e; cases e
    | some n =>
      rw [en] at e
      cases e
      have ht : ns.take (i + 1) = ns.take i ++ [n] := by rw [List.take_add_one, en]; rfl
      refine step n _ _ _ upd_same ?_ (fun c => ?_) (fun c => ?_)
      · rw [List.length_map, List.length_map]
        have h1 := List.length_filter_le t (ns.take i)
        have h2 := List.length_take_le i ns
        have h3 : (ns.take i).length <= ns.length := by rw [List.length_take]; omega
        omega
      · show upd (upd H1 D _) D _ = upd H1 D _
        rw [upd_upd, ht, List.filter_append, List.map_append, List.map_append]
        simp [c]
      · show upd H1 D _ = upd H1 D _
        rw [ht, List.filter_append]
        simp [c]
  · rintro H' rfl
    rw [List.length_map, List.take_length]
    exact hd
end
section
theorem pss_dl {X : Cx} {ss : List Stmt} {T : List (Addr × Str)} {t : Dr X.w X.K X.mg -> TS} (h : ∀ dl : Dr X.w X.K X.mg, dl.tabs = T -> dl.act = true -> PSs X ss (t dl)) : PSs X ss (fun E sg H => ∃ dl : Dr X.w X.K X.mg, dl.tabs = T /\ dl.act = true /\ t dl E sg H) := ⟨fun pins s sg H D I q => by
  obtain ⟨dl, e, ea, q⟩ := q
  exact (h dl e ea).run pins s sg H D I q⟩
def startL (n : Nat) (ns : List Int) : Sls := some (.fz (.scr ns)) :: some (.fz .drw) :: List.replicate (n - 2) none
def runL (n : Nat) (b : SS) (ns : List Int) : M D := bnd (b (startL n ns)) fun o => match o with
  | .next _ => ret .non
  | .ret d => ret d
  | _ => fail
def spLaw (K : PySem.W.Frag) (T : List (Addr × Str)) (m : List Int -> M D) : Sp := fun vs H Q _ => ∃ (a : Addr) (ns : List Int), vs = [.ref a] /\ (∀ p ∈ T, H p.1 = some (.tbl #[])) /\ (∀ b, H b = none \/ b ∈ T.map (·.1) \/ ∃ o xs, H b = some (.frz o (.lst xs))) /\ SqL K H a (ns.map V.int) /\ ns.length <= 63 /\ (∃ s', m ns (ds0 ns) = some (.ok (.bl true), s')) /\ ∀ H', Q (.bl true) H'
abbrev tLaw (X : Cx) (W : WX) (T : List (Addr × Str)) (b : SS) : TS := tSeq (tAsg (tCall (spB X.K X.mg X.w) [] L2.E0 (tCons (tVar 0) tNil)) (gName 1)) (fun E sg H => ∃ dl : Dr X.w X.K X.mg, dl.tabs = T /\ dl.act = true /\ tS X dl W b E sg H)
end
section
def isNon : D -> Bool
  | .non => true
  | _ => false
def isND : D -> D -> Option D
  | d, .non => some (.bl (isNon d))
  | _, _ => none
def notND : D -> D -> Option D
  | d, .non => some (.bl (!isNon d))
  | _, _ => none
theorem isNon_rep {K : PySem.W.Frag} {mg : Str -> Option Value} {wd : World} {dl : Dr wd K mg} {F : Hp} {a : D} {x : V} (h : Rep K mg dl F a x) : decide (x = .non) = isNon a := by
  cases a with
  | non => have h : x = .non := h; subst h; rfl
  | bl b => have h : x = .bl b := h; subst h; rfl
  | int b => have h : x = .int b := h; subst h; rfl
  | str b => have h : x = .str b := h; subst h; rfl
  | drw => have h : x = .ref dl.a := h; subst h; rfl
  | tup xs => obtain ⟨p, vs, rfl, _⟩ := h; rfl
  | lst xs => obtain ⟨p, vs, rfl, _⟩ := h; rfl
  | obj c ns xs => obtain ⟨p, _, _, vs, rfl, _⟩ := h; rfl
  | scr xs => obtain ⟨p, rfl, _⟩ := h; rfl
  | dct ks xs => obtain ⟨p, o, vs, rfl, _⟩ := h; rfl
  | dcT ks xs => obtain ⟨p, o, vs, rfl, _⟩ := h; rfl
  | dcN ks xs => obtain ⟨p, _, _, _, rfl, _⟩ := h; rfl
  | exm c m => obtain ⟨p, _, _, rfl, _⟩ := h; rfl
  | ptp xs => obtain ⟨p, _, _, rfl, _⟩ := h; rfl
  | mob _ _ _ => obtain ⟨p, _, _, rfl, _⟩ := h; rfl
  | exc c ns xs => obtain ⟨p, C, vs, rfl, _⟩ := h; rfl
section
variable {X : Cx} {dl : Dr X.w X.K X.mg}
theorem od_isN : OpR X (compareOp .Is) (rD X dl isND) := by
  refine rd_of op_isN fun x y H Q F s a b d w ra rb e k => ?_
  cases b with
  | non =>
    cases e
    have rb : y = .non := rb
    exact ⟨rb, by rw [isNon_rep ra]; exact k F H _ Step.refl w rfl⟩
  | _ => cases e
theorem od_notN : OpR X (compareOp .IsNot) (rD X dl notND) := by
  refine rd_of op_notN fun x y H Q F s a b d w ra rb e k => ?_
  cases b with
  | non =>
    cases e
    have rb : y = .non := rb
    exact ⟨rb, by rw [isNon_rep ra]; exact k F H _ Step.refl w rfl⟩
  | _ => cases e
end
end
section
theorem GetD.propOf {K : PySem.W.Frag} {d : GetD} (c : d.okP K = true) : PropOf K (He.ga K d.cls) d.prop (pAd K d.cls d.prop) (gAd K d.cls d.prop) := by
  obtain ⟨c1, c⟩ := He.ba c
  obtain ⟨c2, c⟩ := He.ba c
  obtain ⟨c3, c4⟩ := He.ba c
  refine ⟨He.eqO_ok c1, He.eqO_ok c2, of_decide_eq_true c3, ?_⟩
  unfold gAd
  generalize PySem.W.recIn K (pAd K d.cls d.prop) "property" = r at c4
  match r, c4 with
  | some (.ref g :: rest), _ => exact ⟨rest, rfl⟩
theorem GetD.fun_ {K : PySem.W.Frag} {d : GetD} (e : fnA K (gAd K d.cls d.prop) = d.val) (c : d.okF K = true) : ∃ fd, FunD K d.prop d.qual d.params d.body d.scope [] [] (gAd K d.cls d.prop) fd := by
  obtain ⟨kp, c⟩ := He.ba c
  unfold fnA at e
  cases hl : K.lookup (gAd K d.cls d.prop) with
  | none => rw [hl] at c; cases c
  | some ob =>
    rcases ob with ⟨u1, u2, dat, u3⟩
    rw [hl] at c e
    cases dat
    case func fd =>
      rcases fd with ⟨m1, m2, m3, m4, m5, m6, m7, m8, m9, m10, m11, m12, m13, m14, m15⟩
      unfold GetD.val at e
      simp only [Option.some.injEq, Prod.mk.injEq] at e
      rcases e with ⟨g1, g2, g3, g4, g5, g6, g7, g8⟩
      subst g1 g2 g3 g4 g5 g6 g7 g8
      obtain ⟨y1, y2⟩ := He.ba (show (PySem.W.codeIn K m13 d.qual && He.dflB K m8 []) = true from c)
      exact ⟨_, ⟨u1, u2, m8, m9, m10, m11, m12, m13, m14, u3, rfl, hl, y1, He.dflB_ok y2, .inl rfl⟩, kp⟩
    all_goals cases c
section
variable {fa : List He.Fa} {fn : List He.DefD} {fx : List Fx} {gt : List GetD} {K : PySem.W.Frag} {mg : Str -> Option Value}
theorem SaysY.get_ (c : SaysY fa fn fx gt K) (i : Nat) {d : GetD} (h : gt[i]? = some d := by rfl) : ∃ fd, FunD K d.prop d.qual d.params d.body d.scope [] [] (gAd K d.cls d.prop) fd := by
  have m := List.mem_of_getElem? h
  have e2 : (gt.map fun d => fnA K (gAd K d.cls d.prop))[i]? = (gt.map GetD.val)[i]? := by rw [c.v]
  rw [List.getElem?_map, List.getElem?_map, h] at e2
  exact GetD.fun_ (Option.some.inj e2) (List.all_eq_true.mp c.f d m)
theorem SaysY.prop_ (c : SaysY fa fn fx gt K) (i : Nat) {d : GetD} (h : gt[i]? = some d := by rfl) : PropOf K (He.ga K d.cls) d.prop (pAd K d.cls d.prop) (gAd K d.cls d.prop) :=
  GetD.propOf (List.all_eq_true.mp c.p d (List.mem_of_getElem? h))
variable {P : Program} {w : World} {base : Heap} {x f : Str} {k : Nat} {fm : List D -> M D} {fd : FuncData} {ps : List Str} {p g : Addr}
theorem propF_of (gl : mg x = some (.ref (He.ga K x))) (cl : Cls K (He.ga K x)) (c : PropOf K (He.ga K x) f p g) (hl : ps.length = 1) (hb : Binds K fd ps []) (F : FnOk P w K mg base (L2.CX P w) k g fd ps (spD K mg w 1 fm)) : PropF P w K mg base x f k fm :=
  ⟨_, _, _, fd, ps, gl, cl, c, hl, hb, F⟩
end
end
section
theorem PE.lock {X : Cx} {e : Expr} {t : TE} (h : PE X e t) : PE X e (fun sg H Q => t sg H fun v H1 => ∃ d u, v = .ref d /\ H1 d = some u /\ Mut (some u) /\ ∀ od, Q v (upd H1 d (.frz od u))) :=
  ⟨fun pins s sg H Q I q => thn (h.run pins s sg H _ I q) fun u s1 ⟨v, H1, I1, r, d, uu, e1, e2, mu, k⟩ => by
    obtain ⟨od, I2⟩ := I1.lock e2 mu
    exact ⟨v, _, I2, r, k od⟩⟩
def keyOf : D -> Option Key
  | .int i => some (.inl i)
  | .str x => some (.inr x)
  | _ => none
theorem key_rep {K : PySem.W.Frag} {mg : Str -> Option Value} {wd : World} {dl : Dr wd K mg} {F : Hp} {d : D} {v : V} {k : Key} (r : Rep K mg dl F d v) (e : keyOf d = some k) : v = kV k := by
  cases d with
  | int i => cases e; exact r
  | str x => cases e; exact r
  | _ => cases e
def atK : List Key -> List D -> Key -> Option D
  | k :: ks, x :: xs, j => if k = j then some x else atK ks xs j
  | _, _, _ => none
def hasK (ks : List Key) (j : Key) : Bool := ks.any fun k => decide (k = j)
theorem valV_zip {K : PySem.W.Frag} {mg : Str -> Option Value} {wd : World} {dl : Dr wd K mg} {F : Hp} : ∀ {ks : List Key} {xs : List D} {vs : List V} (j : Key), ks.length = vs.length -> RepL K mg dl F xs vs ->
    (∀ d, atK ks xs j = some d -> ∃ v, valV (ks.zip vs) j = some v /\ Rep K mg dl F d v) /\ (valV (ks.zip vs) j).isSome = hasK ks j
  | [], xs, vs, j, _, _ => ⟨fun d e => by (cases xs <;> cases e), by simp [valV, hasK]⟩
  | k :: ks, xs, [], j, hl, _ => by cases hl
  | k :: ks, [], v :: vs, j, hl, r => by cases r
  | k :: ks, x :: xs, v :: vs, j, hl, r => by
    obtain ⟨v', vs', e, r1, r2⟩ := r
    cases e
    have ih := valV_zip (ks := ks) (xs := xs) (vs := vs) j (by simpa using hl) r2
    unfold valV at ih ⊢
    by_cases q : k = j
    · subst q
      refine ⟨fun d e => ?_, ?_⟩
      · rw [atK, if_pos rfl] at e
        cases e
        exact ⟨v, by simp [List.find?_cons], r1⟩
      · simp [List.find?_cons, hasK]
    · refine ⟨fun d e => ?_, ?_⟩
      · rw [atK, if_neg q] at e
        obtain ⟨u, h1, h2⟩ := ih.1 d e
        exact ⟨u, by simpa [List.find?_cons, q] using h1, h2⟩
      · have h := ih.2
        unfold hasK at h ⊢
        rw [List.any_cons, show decide (k = j) = false from decide_eq_false q, Bool.false_or, <- h]
        simp [List.find?_cons, q]
section
variable {X : Cx} {dl : Dr X.w X.K X.mg} {W : WX} {a b : Expr} {fa fb : SE} {pos : Pos}
theorem Wd.newD {F H : Hp} {s : DS} (w : Wd dl F H s) {p : Addr} {o : HO} {u : HO} (h : H p = none) (ho : NotTbl o := by intro _ z; cases z) : Wd dl (upd F p o) (upd (upd H p u) p o) s := by rw [upd_upd]; exact w.new h ho
theorem Step.newD {F H : Hp} {s : DS} (w : Wd dl F H s) {p : Addr} {o : HO} {u : HO} (h : H p = none) : Step dl F H (upd F p o) (upd (upd H p u) p o) := by rw [upd_upd]; exact Step.new w h
def nodupK : List Key -> Bool
  | [] => true
  | k :: ks => !hasK ks k && nodupK ks
theorem hasK_iff {ks : List Key} {j : Key} : hasK ks j = true ↔ j ∈ ks := by
  unfold hasK
  rw [List.any_eq_true]
  constructor
  · rintro ⟨k, h1, h2⟩
    rw [<- of_decide_eq_true h2]; exact h1
  · intro h
    exact ⟨j, h, decide_eq_true rfl⟩
theorem nodupK_iff : ∀ {ks : List Key}, nodupK ks = true ↔ ks.Nodup
  | [] => by simp [nodupK]
  | k :: ks => by
    rw [nodupK, Bool.and_eq_true, nodupK_iff, List.nodup_cons, Bool.not_eq_true', <- Bool.not_eq_true, hasK_iff]
def dictOf (kvs : List (Key × D)) : Option D := if kvs.length <= 1000 /\ nodupK (kvs.map (·.1)) = true then some (.dct (kvs.map (·.1)) (kvs.map (·.2))) else none
theorem putK_new {kvs : List (Key × V)} {k : Key} {v : V} (h : k ∉ kvs.map (·.1)) : putK kvs k v = kvs ++ [(k, v)] := by
  unfold putK
  rw [if_neg]
  intro q
  obtain ⟨p, hp, e⟩ := List.any_eq_true.mp q
  exact h (List.mem_map.mpr ⟨p, hp, of_decide_eq_true e⟩)
theorem mergeK_new : ∀ (more kvs : List (Key × V)), ((kvs ++ more).map (·.1)).Nodup -> mergeK kvs more = kvs ++ more
  | [], kvs, _ => by simp [mergeK]
  | (k, v) :: more, kvs, h => by
    have e : kvs ++ (k, v) :: more = (kvs ++ [(k, v)]) ++ more := by simp
    have n : k ∉ kvs.map (·.1) := fun q => by
      rw [List.map_append, List.map_cons] at h
      exact (List.nodup_append.mp h).2.2 k q k (.head _) rfl
    show mergeK (putK kvs k v) more = _
    rw [putK_new n, mergeK_new more _ (by rw [<- e]; exact h), <- e]
end
end
section
end
section
theorem bb_repr : bootBuiltins "repr" = some (.builtin "repr") := by decide +kernel
def showP (p : PyData) : Option D := if p.showable = true /\ p.shown.length <= sizeLine /\ p.depth <= 60 /\ p.hasDict = false then some (.str p.shown) else none
def toR : D -> Option PyData := toP
def reprD : List D -> Option D
  | [d] => (toR d).bind showP
  | _ => none
section
variable {X : Cx} {dl : Dr X.w X.K X.mg} {W : WX}
theorem cd_repr (hg : X.A.guards = some []) (hu : X.A.units + 64 < cLine) : CallR X (.builtin "repr") (rCD X dl reprD) := by
  intro pins s sg H xs us Q I r h
  obtain ⟨F, st, ds, d, wd, rp, e, k⟩ := h
  match ds, e with
  | [a], e =>
    have e : (toP a).bind showP = some d := e
    cases ep : toP a with
    | none => rw [ep] at e; cases e
    | some p =>
      rw [ep] at e
      have e : showP p = some d := e
      unfold showP at e
      split at e
      · rename_i hc
        obtain ⟨c1, c2, c3, c4⟩ := hc
        cases e
        obtain ⟨v, vs', rfl, r1, r2⟩ := rp
        cases (show vs' = [] from r2)
        obtain ⟨u, rfl, ru⟩ := vals1 r
        have dp := dp_of wd.sub a v p r1 ep
        have fin : ∀ (h' : Heap) (t tk : Nat), (∀ b o, s.heap.get? b = some o -> h'.get? b = some o) -> EP X pins sg Q (.str p.shown t) { s with heap := h', toks := tk } := fun h' t tk hk =>
          ⟨.str p.shown, H, I.kept hk, ⟨t, rfl⟩, k F H _ Step.refl wd rfl⟩
        have hs0 : ∀ (t tk : Nat), EP X pins sg Q (.str p.shown t) { s with toks := tk } := fun t tk => fin s.heap t tk fun _ _ e => e
        cases dp with
        | non =>
          cases ru
          exact PySem.P.repr_of_none (hs0 _ _)
        | bl b =>
          cases ru
          cases b with
          | true => exact PySem.P.repr_of_bool (hs0 _ _)
          | false => exact PySem.P.repr_of_bool (hs0 _ _)
        | int i =>
          obtain ⟨t, rfl⟩ := ru
          exact PySem.P.repr_of_int (by simpa [PyData.showable] using c1) (hs0 _ _)
        | str x =>
          obtain ⟨t, rfl⟩ := ru
          exact PySem.P.repr_of_str (hs0 _ _) c2
        | lst h1 h2 =>
          cases ru
          obtain ⟨as, rd⟩ := Dp.reads I _ _ _ (.lst h1 h2) rfl
          exact repr_of_reads' rd c1 (fun z => by rw [c4] at z; cases z) hg (by omega) (fun _ _ e => e) (fun h' u tk hk => fin h' u tk hk) c2
        | tup h1 h2 =>
          cases ru
          obtain ⟨as, rd⟩ := Dp.reads I _ _ _ (.tup h1 h2) rfl
          exact repr_of_reads' rd c1 (fun z => by rw [c4] at z; cases z) hg (by omega) (fun _ _ e => e) (fun h' u tk hk => fin h' u tk hk) c2
      · cases e
  | [], e => cases e
  | _ :: _ :: _, e => cases e
end
def eqS : D -> D -> Option D
  | .str x, .str y => some (.bl (decide (x = y)))
  | _, _ => none
section
variable {X : Cx} {dl : Dr X.w X.K X.mg}
theorem od_eqS : OpR X (compareOp .Eq) (rD X dl eqS) := by
  refine rd_of op_eq fun x y H Q F s a b d w ra rb e k => ?_
  unfold eqS at e
  split at e
  · rename_i u v
    cases e
    cases (show x = .str u from ra)
    cases (show y = .str v from rb)
    refine ⟨rfl, k F H _ Step.refl w ?_⟩
    show V.bl _ = V.bl _
    congr 1
    rw [Bool.eq_iff_iff]
    simp
  · cases e
end
structure FnOkG (P : Program) (w : World) (K : PySem.W.Frag) (mg : Str -> Option Value) (base : Heap) (CX : CXT) (k : Nat) (f : Addr) (fd : FuncData) (ps : List Str) (sp : Sp) : Prop where
  len : ∀ vs H Q E, sp vs H Q E -> vs.length = ps.length
  run : ∀ (A : Around) (outer : List Env) (s : Shared) (H : Hp) (args : Args) (us : List Value) (vs : List V) (Q : VK) (E : XK), Room k A -> A.guards = some [] -> Env0 P w K mg base A outer s H ->
    BindsTo s fd args (ps.zip us) -> Vals vs us -> sp vs H Q E -> codeAny (model P w) A (.call (.ref f) args) (CR CX outer P w H s Q E) s
theorem FnOkG.of {P : Program} {w : World} {K : PySem.W.Frag} {mg : Str -> Option Value} {base : Heap} {CX : CXT} {k : Nat} {f : Addr} {fd : FuncData} {ps : List Str} {sp : Sp} (F : FnOk P w K mg base CX k f fd ps sp) : FnOkG P w K mg base CX k f fd ps sp :=
  ⟨F.len, fun A outer s H args us vs Q E hr _ => F.run A outer s H args us vs Q E hr⟩
theorem fn_ofG {cX : CXT} {P : Program} {w : World} {K : PySem.W.Frag} {mg : Str -> Option Value} {base : Heap} {k : Nat} {f : Addr} {nam qual : Str} {params : Arguments} {body : List Stmt} {scope : Scope} {dV kV doc pm cdv ct oc : Value} {an od : Option Addr}
    {osl : Array (Option Value)} {N ps : List Str} {sp : Sp} (lkf : K.lookup f = some ⟨oc, od, .func (PySem.W.fnOf nam qual params body scope dV kV doc pm an cdv ct), osl⟩) (hcd : PySem.W.codeIn K cdv qual = true) (S : FnScope N ps scope)
    (len0 : ∀ vs H Q E, sp vs H Q E -> vs.length = ps.length)
    (bodyOk : ∀ (A : Around) (outer : List Env) (s : Shared) (H : Hp) (vs : List V) (Q : VK) (E : XK), Room k (A.deeper (envOfC qual scope s.heap.objs.size f cdv)) -> A.guards = some [] -> sp vs H Q E ->
      ∃ t, PSs (cxOf cX P w K mg base N qual scope f cdv A outer s H E) body t /\ t { nx := fun _ H' => Q .non H', rt := Q } (start N vs) H) :
    FnOkG P w K mg base cX (k + 1) f (PySem.W.fnOf nam qual params body scope dV kV doc pm an cdv ct) ps sp := by
  refine ⟨len0, fun A outer s H args us vs Q E rm gd en bd rl spq => ?_⟩
  have len1 := len0 _ _ _ _ spq
  have kin : K.In s.heap := en.mod.kin.keeps fun b o e => (en.bs b o e).1
  have nol : s.heap.NoLimit := en.mod.nolimit.keeps fun b o e => (en.bs b o e).1
  have kinds : ∀ y ∈ ps.zip us, scope.names.lookup y.1 = some .local \/ (scope.names.lookup y.1 = some .cell /\ ((cellsFrom (s.heap.objs.size + 1) scope.names []).lookup y.1).isSome = true) := fun ⟨n, v⟩ yin => by
    rcases S.par n (List.of_mem_zip yin).1 with z | z
    · exact .inl z
    · exact .inr ⟨z, PySem.W.cellsFrom_some _ _ _ (.inl z)⟩
  refine codeAny_call_function rm.depth (kin _ _ lkf) rfl S.co S.gen rfl (PySem.W.codeRec_of kin hcd) (bd _ _ _ _ ?_)
  refine wpAny_newFunctionEnv_cells S.kind kinds fun env1 he1 s1 x1 => ?_
  subst he1
  refine ⟨nol.keeps x1.toInCall.keep, codeAny_func ?_⟩
  obtain ⟨t, ht, tq⟩ := bodyOk A outer s H vs Q E (rm.deeper _) gd spq
  have I1 : Inv (cxOf cX P w K mg base N qual scope f cdv A outer s H E) [] (start N vs) H s1 := inv_start S rm.hd en len1 rl x1
  refine wpAny_mono (ht.run [] s1 (start N vs) H _ I1 tq) (fun fl s2 z => ?_) fun e s2 z => z
  have done : ∀ {sg' : L2.St} {H2 : Hp} {v : V} {u : Value}, Inv (cxOf cX P w K mg base N qual scope f cdv A outer s H E) [] sg' H2 s2 -> RelV v u -> Q v H2 -> CE outer P w H s Q u s2 :=
    fun {_ H2 v _} J rv q => ⟨v, H2, J.os, J.bare, J.base, J.hok, rv, q⟩
  match fl, z with
  | .ret u, z => obtain ⟨v, sg', H2, J, rv, q⟩ := z; exact done J rv q
  | .next, z => obtain ⟨sg', H2, J, q⟩ := z; exact done (v := V.non) (u := Value.none) J rfl q
  | .brk, z => obtain ⟨_, _, _, q⟩ := z; exact q.elim
  | .cont, z => obtain ⟨_, _, _, q⟩ := z; exact q.elim
def codeA (K : PySem.W.Frag) (f : Addr) : Addr := match K.lookup f with
  | some ⟨_, _, .func fd, _⟩ => (match fd.code with
    | .ref c => c
    | _ => 0)
  | _ => 0
section
variable {P : Program} {w : World} {K : PySem.W.Frag} {mg : Str -> Option Value} {base : Heap} {x qual : Str} {f : Addr} {fd : FuncData}
theorem FunD_okG {params : Arguments} {body : List Stmt} {scope : Scope} {dvs : List V} {kws : List (Str × V)} {cX : CXT} {N ps : List Str} {k : Nat} {sp : Sp} (F : FunD K x qual params body scope dvs kws f fd) (S : FnScope N ps scope) (len0 : ∀ vs H Q E, sp vs H Q E -> vs.length = ps.length)
    (bodyOk : ∀ (cdv : Value) (A : Around) (outer : List Env) (s : Shared) (H : Hp) (vs : List V) (Q : VK) (E : XK), Room k (A.deeper (envOfC qual scope s.heap.objs.size f cdv)) -> A.guards = some [] -> PySem.W.codeIn K cdv qual = true -> cdv = .ref (codeA K f) -> sp vs H Q E ->
      ∃ t, PSs (cxOf cX P w K mg base N qual scope f cdv A outer s H E) body t /\ t { nx := fun _ H' => Q .non H', rt := Q } (start N vs) H) : FnOkG P w K mg base cX (k + 1) f fd ps sp := by
  obtain ⟨oc, od, dV, kV, doc, pm, an, cdv, ct, osl, rfl, lkf, hcd, _, _⟩ := F.ex
  refine fn_ofG lkf hcd S len0 fun A outer s H vs Q E rm gd spq => bodyOk cdv A outer s H vs Q E rm gd hcd ?_ spq
  obtain ⟨c, rfl⟩ := He.codeIn_ref hcd
  unfold codeA
  rw [lkf]
def spDT (K : PySem.W.Frag) (mg : Str -> Option Value) (w : World) (T : List (Addr × Str)) (n : Nat) (m : List D -> M D) : Sp := fun vs H Q E => vs.length = n /\ ∃ (dl : Dr w K mg) (F : Hp) (ds : List D) (s : DS), dl.tabs = T /\ Wd dl F H s /\ RepL K mg dl F ds vs /\ Go mg K dl E F H (m ds s) fun d _ F' H' => ∀ v, Rep K mg dl F' d v -> Q v H'
structure DFnG (P : Program) (w : World) (K : PySem.W.Frag) (mg : Str -> Option Value) (base : Heap) (T : List (Addr × Str)) (x : Str) (k n : Nat) (m : List D -> M D) : Prop where
  ex : ∃ (f : Addr) (fd : FuncData) (ps : List Str), mg x = some (.ref f) /\ PySem.W.keepIn K (.ref f) = true /\ ps.length = n /\ Binds K fd ps [] /\ FnOkG P w K mg base (L2.CX P w) k f fd ps (spDT K mg w T n m)
theorem def_ofG {T : List (Addr × Str)} {ps : List Str} {n k : Nat} {fm : List D -> M D} (gl : mg x = some (.ref (He.ga K x))) (kp : PySem.W.keepIn K (.ref (He.ga K x)) = true) (hl : ps.length = n) (hb : Binds K fd ps []) (F : FnOkG P w K mg base (L2.CX P w) k (He.ga K x) fd ps (spDT K mg w T n fm)) : DFnG P w K mg base T x k n fm :=
  ⟨_, fd, ps, gl, kp, hl, hb, F⟩
theorem dfn_ofG (T : List (Addr × Str)) {st : Stmt} {N ps : List Str} {k n : Nat} {b : SS} {dvs : List V} {kws : List (Str × V)} (F : FunD K x qual (defArgs st) (defBody st) (defScope st) dvs kws f fd) (S : FnScope N ps (defScope st)) (hn : ps.length = n)
    (hb : ∀ (cdv : Value) (A : Around) (outer : List Env) (s : Shared) (H : Hp) (E : XK) (dl : Dr w K mg), Room k (cxOf (L2.CX P w) P w K mg base N qual (defScope st) f cdv A outer s H E).A ->
      Takes (cxOf (L2.CX P w) P w K mg base N qual (defScope st) f cdv A outer s H E) (fun cls d _ H => E cls d H) ->
      PassesOwn (model P w) (cxOf (L2.CX P w) P w K mg base N qual (defScope st) f cdv A outer s H E).A (cxOf (L2.CX P w) P w K mg base N qual (defScope st) f cdv A outer s H E).env (cxOf (L2.CX P w) P w K mg base N qual (defScope st) f cdv A outer s H E).xe ->
      (cxOf (L2.CX P w) P w K mg base N qual (defScope st) f cdv A outer s H E).A.guards = some [] -> dl.tabs = T -> PySem.W.codeIn K cdv qual = true -> cdv = .ref (codeA K f) ->
      DSs (cxOf (L2.CX P w) P w K mg base N qual (defScope st) f cdv A outer s H E) dl (fun cls d _ H => E cls d H) (defBody st) b) :
    FnOkG P w K mg base (L2.CX P w) (k + 1) f fd ps (spDT K mg w T n (runB N.length b)) := by
  refine FunD_okG F S (fun vs H Q E h => h.1.trans hn.symm) fun cdv A outer s H vs Q E hr hg hcd hce h => ?_
  obtain ⟨hlen, dl, Fz, ds, s0, hT, wd, rp, go⟩ := h
  refine ⟨_, hb cdv A outer s H E dl hr (takes_of rfl rfl rfl rfl) (passes_of rfl) hg hT hcd hce, ?_⟩
  refine ⟨Fz, H, Fz, startG N.length ds, s0, wd, sim_start rp, ?_⟩
  unfold runB bnd at go
  cases e : b (startG N.length ds) s0 with
  | none => rw [e] at go; exact go
  | some p =>
    obtain ⟨r, s1⟩ := p
    rw [e] at go
    cases r with
    | err x => exact fun F' H' sg' cls d st w xr => go F' H' cls d st w xr
    | ok o =>
      cases o with
      | next G => exact fun F' H' sg' sm w S => go F' H' S.st w .non rfl
      | brk G => exact go.elim
      | cont G => exact go.elim
      | ret d => exact fun F' H' v st w r => go F' H' st w v r
end
section
variable {X : Cx} {dl : Dr X.w X.K X.mg} {W : WX} {pos p : Pos} {x : Str} {e : Expr} {es : List Expr} {ra : SA} {k n : Nat} {m : List D -> M D}
theorem run_fnG {cX : CXT} {f : Addr} {fd : FuncData} {ps : List Str} {sp : Sp} {E : L2.St -> XK} {pins : List (Addr × Obj)} {sg : L2.St} {H : Hp} {s : Shared} {Q : VK} {us : List Value} {vs : List V} (F : FnOkG X.prog X.w X.K X.mg X.base cX k f fd ps sp) (hr : Room k X.A) (hg : X.A.guards = some []) (hb : Binds X.K fd ps []) (hx : PassesAt cX X sg (E sg))
    (I : Inv X pins sg H s) (r : Vals vs us) (h : sp vs H Q (E sg)) : wpAny (model X.prog X.w) X.A (call (.ref f) us) (EP X pins sg Q) X.xe s := by
  have len1 : us.length = ps.length := by rw [<- r.length]; exact F.len _ _ _ _ h
  have bd := hb s us I.kIn (by rw [List.append_nil]; exact len1)
  rw [List.append_nil] at bd
  refine wpAny_call (codeAny_mono (F.run X.A X.stack s H ⟨us, []⟩ us vs Q (E sg) hr hg I.env0 bd r h) fun z s2 q => ?_)
  match z, q with
  | .error e, q => exact hx pins H s e s2 I q
  | .ok (.ret u), q => exact I.after q
  | .ok .next, q => exact q.elim
  | .ok .brk, q => exact q.elim
  | .ok .cont, q => exact q.elim
theorem de_callG {T : List (Addr × Str)} (h : DFnG X.prog X.w X.K X.mg X.base T x k n m) (hr : Room k X.A) (gd : X.A.guards = some []) (hT : dl.tabs = T) (tk : Takes X W) (ha : DA X dl W (e :: es) ra) (hg : Gl X x := by rfl)
    (hdb : (x == ("__debug__" : Str)) = false := by decide) (he : starEach (e :: es) X.env = (false, eval e X.env) :: starEach es X.env := by rfl) (hpl : (backTo pos (starEach es X.env)).any (·.1) = false := by rfl) :
    DE X dl W (.Call (.Name x p) (e :: es) [] pos) (gCall n m ra) := by
  obtain ⟨f, fd, ps, h1, h2, h3, h4, h5⟩ := h.ex
  have R : PE X (.Call (.Name x p) (e :: es) [] pos) (tCallS (spDT X.K X.mg X.w T n m) (WE W) (tDA X dl W ra)) := ⟨fun pins s sg H Q I q => by
    refine wpAny_Call_Name_kw (ld_glob I hg h1 ?_ hdb)
    refine PySem.W.callWith_K (h₀ := X.base) I.ok.mod.kin h2 (thn (ha.run pos pins s sg H _ I q) fun us s1 ⟨vs, H1, I1, r1, q1⟩ => ⟨I1.kIn, ?_⟩) he hpl
    exact run_fnG (E := WE W) h5 hr gd h4 (passAt tk sg) I1 r1 q1⟩
  refine PE.of R fun sg H Q q => ?_
  obtain ⟨F, F0, H0, G, s, w, S, g⟩ := q
  refine ⟨F, F0, H0, G, s, w, S, g.bnd.imp fun ds s1 F1 H1 st1 w1 g1 vs rvs => ?_⟩
  by_cases hl : ds.length = n
  · rw [if_pos hl] at g1
    exact ⟨rvs.length.symm.trans hl, dl, F1, ds, s1, hT, w1, rvs, g1⟩
  · rw [if_neg hl] at g1
    exact g1.elim
end
end
section
def hidF (H : Hp) (T : List (Addr × Str)) : Hp := fun b => if b ∈ T.map (·.1) then none else H b
theorem hidF_some {H : Hp} {T : List (Addr × Str)} {b : Addr} {o : HO} (h : hidF H T b = some o) : b ∉ T.map (·.1) /\ H b = some o := by
  unfold hidF at h
  by_cases z : b ∈ T.map (·.1)
  · rw [if_pos z] at h; cases h
  · rw [if_neg z] at h; exact ⟨z, h⟩
theorem hidF_none {H : Hp} {T : List (Addr × Str)} {b : Addr} (h : H b = none) : hidF H T b = none := by
  unfold hidF
  by_cases z : b ∈ T.map (·.1)
  · rw [if_pos z]
  · rw [if_neg z]; exact h
theorem hidF_tab {H : Hp} {T : List (Addr × Str)} {b : Addr} {q : Str} (h : (b, q) ∈ T) : hidF H T b = none := by
  unfold hidF
  rw [if_pos (List.mem_map.mpr ⟨_, h, rfl⟩)]
theorem hidF_of {H : Hp} {T : List (Addr × Str)} {b : Addr} {o : HO} (hT : ∀ p ∈ T, H p.1 = some (.tbl #[])) (h : H b = some o) (ho : o ≠ .tbl #[]) : hidF H T b = some o := by
  unfold hidF
  rw [if_neg (fun z => by
    obtain ⟨p, hp, e⟩ := List.mem_map.mp z
    have q := hT p hp
    rw [e, h] at q
    exact ho (Option.some.inj q))]
  exact h
theorem hidF_seq {K : PySem.W.Frag} {H : Hp} {T : List (Addr × Str)} {a : Addr} {xs : List V} (hT : ∀ p ∈ T, H p.1 = some (.tbl #[])) (h : SqL K H a xs) : SqL K (hidF H T) a xs := by
  rcases h with (h | ⟨o, h⟩) | h
  · exact .inl (.inl (hidF_of hT h (fun z => by cases z)))
  · exact .inl (.inr ⟨o, hidF_of hT h (fun z => by cases z)⟩)
  · exact .inr h
theorem law_tabs {T : List (Addr × Str)} {wd : World} {K : PySem.W.Frag} {mg : Str -> Option Value} {dl : Dr wd K mg} {H H' : Hp} {ns : List Int} (hTb : ∀ p ∈ T, H p.1 = some (.tbl #[])) (hOn : ∀ b, H b = none \/ b ∈ T.map (·.1) \/ ∃ o xs, H b = some (.frz o (.lst xs))) (bg : Begun dl H H' ns) : TabF T (hidF H T) H' := by
  refine ⟨fun p hp => ⟨#[], bg.kp _ _ (hTb p hp), True.intro, fun pos cv hc => ?_⟩, fun b ps h => ?_, fun b c q h => ?_⟩
  · have z : codeAmong pos [] = some cv := hc
    simp [codeAmong] at z
  · rcases bg.nt b _ h with z | ⟨z, _⟩
    · rcases hOn b with y | y | ⟨o, xs, y⟩
      · rw [z] at y; cases y
      · obtain ⟨p, hp, e⟩ := List.mem_map.mp y
        exact ⟨p.2, by rw [<- e]; exact hp⟩
      · rw [z] at y; cases y
    · exact absurd rfl (z ps)
  · rcases bg.nt b _ h with z | ⟨_, z⟩
    · rcases hOn b with y | y | ⟨o, xs, y⟩
      · rw [z] at y; cases y
      · obtain ⟨p, hp, e⟩ := List.mem_map.mp y
        have := hTb p hp
        rw [e, z] at this
        exact absurd this fun w => by
          have w2 := Option.some.inj w
          unfold LamX.CodeO at w2
          cases w2
      · rw [z] at y
        have w2 := Option.some.inj y
        unfold LamX.CodeO at w2
        cases w2
    · exact absurd rfl (z c q)
theorem law_ofG (T : List (Addr × Str)) {P : Program} {w : World} {K : PySem.W.Frag} {mg : Str -> Option Value} {base : Heap} {x qual : Str} {st : Stmt} {f : Addr} {fd : FuncData} {N : List Str} {k : Nat} {b : SS} {p : Str} {dvs : List V} {kws : List (Str × V)} (F : FunD K x qual (defArgs st) (defBody st) (defScope st) dvs kws f fd) (S : FnScope N [p] (defScope st)) (hn : 2 <= N.length)
    (hb : ∀ (cdv : Value) (A : Around) (outer : List Env) (s : Shared) (H : Hp) (E : XK), Room k (cxOf (L2.CX P w) P w K mg base N qual (defScope st) f cdv A outer s H E).A ->
      Takes (cxOf (L2.CX P w) P w K mg base N qual (defScope st) f cdv A outer s H E) (fun cls d _ H => E cls d H) ->
      PassesOwn (model P w) (cxOf (L2.CX P w) P w K mg base N qual (defScope st) f cdv A outer s H E).A (cxOf (L2.CX P w) P w K mg base N qual (defScope st) f cdv A outer s H E).env (cxOf (L2.CX P w) P w K mg base N qual (defScope st) f cdv A outer s H E).xe ->
      (cxOf (L2.CX P w) P w K mg base N qual (defScope st) f cdv A outer s H E).A.guards = some [] -> PySem.W.codeIn K cdv qual = true -> cdv = .ref (codeA K f) ->
      PSs (cxOf (L2.CX P w) P w K mg base N qual (defScope st) f cdv A outer s H E) (defBody st) (tLaw (cxOf (L2.CX P w) P w K mg base N qual (defScope st) f cdv A outer s H E) (fun cls d _ H => E cls d H) T b)) :
    FnOkG P w K mg base (L2.CX P w) (k + 1) f fd [p] (spLaw K T (runL N.length b)) := by
  refine FunD_okG F S (fun vs H Q E h => by obtain ⟨a, ns, rfl, _⟩ := h; rfl) fun cdv A outer s H vs Q E hr hg hcd hce h => ?_
  obtain ⟨a, ns, rfl, hTb, hOn, hS, hl, ⟨s', go⟩, hQ⟩ := h
  refine ⟨_, hb cdv A outer s H E hr (takes_of rfl rfl rfl rfl) (passes_of rfl) hg hcd hce, ?_⟩
  match N, hn with
  | n1 :: n2 :: N', _ => ?_
  refine ⟨.ref a, rfl, a, ns, rfl, hS, hl, fun dl H' bg => ⟨{ dl with tabs := T }, rfl, bg.ac, ?_⟩⟩
  refine ⟨hidF H T, H', hidF H T, startL (N'.length + 2) ns, ds0 ns, ⟨fun b o e => bg.kp b o (hidF_some e).2, fun c hc => ?_, bg.ok, law_tabs hTb hOn bg, fun _ => bg.ac, fun _ => ⟨by show dl.ms.length = 0; rw [bg.mz]; rfl, fun i a dx c ns xs _ e1 e2 => (by cases e2), fun i j a q q' e1 => by rw [bg.mz] at e1; cases e1⟩⟩, ?_, ?_⟩
  · rcases hc with rfl | rfl | rfl | ⟨q, hq⟩ | ⟨_, q, hq, _⟩
    · exact hidF_none bg.na
    · exact hidF_none bg.nw
    · exact hidF_none bg.nc
    · exact hidF_tab hq
    · have hq : (c, q) ∈ dl.ms := hq
      rw [bg.mz] at hq; cases hq
  · refine ⟨?_, fun i t e => ?_, fun i j t u e1 e2 o1 o2 _ => ?_, Step.refl, Trs.no fun i t e => by
      match i with
      | 0 => cases e
      | 1 => cases e
      | i + 2 =>
        have e : (List.replicate (N'.length + 2 - 2) (none : Option Sl))[i]? = some (some (.tree t)) := e
        rw [List.getElem?_replicate] at e
        split at e <;> cases e⟩
    · show (startL (N'.length + 2) ns).length = (List.set _ 1 _).length
      rw [List.length_set]
      simp [startL, L2.start]
    · match i with
      | 0 => cases e; exact ⟨.ref a, rfl, a, rfl, hidF_seq hTb hS, hl⟩
      | 1 => cases e; exact ⟨.ref dl.a, rfl, rfl⟩
      | i + 2 =>
        have e : (List.replicate (N'.length + 2 - 2) (none : Option Sl))[i]? = some (some t) := e
        rw [List.getElem?_replicate] at e
        split at e <;> cases e
    · match i with
      | 0 => cases e1; cases o1
      | 1 => cases e1; cases o1
      | i + 2 =>
        have e : (List.replicate (N'.length + 2 - 2) (none : Option Sl))[i]? = some (some t) := e1
        rw [List.getElem?_replicate] at e
        split at e <;> cases e
  · unfold runL bnd at go
    rw [show (n1 :: n2 :: N').length = N'.length + 2 from rfl] at go
    cases e : b (startL (N'.length + 2) ns) (ds0 ns) with
    | none => rw [e] at go; cases go
    | some p =>
      obtain ⟨r, s1⟩ := p
      rw [e] at go
      cases r with
      | err x => cases go
      | ok o =>
        cases o with
        | next G => cases go
        | brk G => cases go
        | cont G => cases go
        | ret d =>
          cases go
          exact fun F' H2 v st w r => by
            have r : v = .bl true := r
            rw [r]; exact hQ H2
theorem law_callG {P : Program} {w : World} {K : PySem.W.Frag} {mg mb : Str -> Option Value} {cX : CXT} {k : Nat} {fad a : Addr} {cds : List (Addr × Addr)} {fd : FuncData} {xn : Str} {spc : Sp} {sB : Shared} {vl : List Value} {nl : List Int}
    (kin0 : K.In sB.heap) (ns0 : sB.heap.Ns mainGlobals mg) (hb0 : sB.heap.Ns builtinsNs mb) (bb0 : ∀ xn : Str, xn ≠ "__name__" -> mb xn = bootBuiltins xn) (lim0 : sB.heap.NoLimit) (hg0 : sB.gens = #[])
    (tb0 : ∀ p ∈ cds, sB.heap.get? p.2 = some { cls := .none, data := .fields #[] }) (nt0 : ∀ p ∈ cds, K.lookup p.2 = none) (Cc : ∀ p ∈ cds, PySem.W.CodeHd sB.heap p.1 p.2)
    (bm0 : ∃ (bm : Addr) (ob : Obj), mg "__builtins__" = some (.ref bm) /\ bm ≠ builtinsNs /\ sB.heap.get? bm = some ob /\ ob.cls = .type "module" /\ ob.dict = some builtinsNs /\ ob.data = .plain)
    (ha0 : sB.heap.get? a = some { cls := .type "list", data := .seq vl.toArray }) (ih0 : IntsAre vl nl) (hl0 : nl.length <= sizeLine) (rm0 : Room k callerA)
    (Fn : ∀ base : Heap, K.In base -> base.Ns mainGlobals mg -> (∀ p ∈ cds, LamX.TabB base mg p.1 p.2) -> FnOkG P w K mg base cX k fad fd [xn] spc) (bd0 : ∀ (s : Shared) (u : Value), BindsTo s fd ⟨[u], []⟩ [(xn, u)])
    (sp0 : ∀ H : Hp, (∀ p ∈ cds, H p.2 = some (.tbl #[])) -> (∀ b, H b = none \/ b ∈ cds.map (·.2) \/ ∃ o xs, H b = some (.frz o (.lst xs))) -> SqL K H a (nl.map V.int) -> spc [.ref a] H (fun v _ => v = .bl true) fun _ _ _ => False)
    (cx0 : ∀ H e s', cX [] H sB (fun _ _ _ => False) e s' -> False) :
    codeAny (model P w) callerA (.call (.ref fad) ⟨[.ref a], []⟩) (fun r s' => r = .ok (.ret (.bool true)) /\ OldK sB.heap s'.heap /\ s'.os = sB.os /\ AllBare s'.gens) sB := by
  have rv0 := vals_ints ih0
  have lv0 := ih0.length
  have is0 : ∀ b : Addr, b ∈ cds.map (·.2) -> sB.heap.get? b = some { cls := .none, data := .fields #[] } := fun b hb0 => by
    obtain ⟨p, ph0, e⟩ := List.mem_map.mp hb0
    rw [<- e]
    exact tb0 p ph0
  have na0 : a ∉ cds.map (·.2) := fun z => by
    have q := is0 a z
    rw [ha0] at q
    have zz : Data.seq vl.toArray _ = Data.fields #[] := congrArg Obj.data (Option.some.inj q)
    cases zz
  have me0 : ∀ p ∈ cds, p.2 ∈ cds.map (·.2) := fun p ph0 => List.mem_map.mpr ⟨p, ph0, rfl⟩
  have main0 : ∀ H : Hp, (∀ p ∈ cds, H p.2 = some (.tbl #[])) -> (∀ b, H b = none \/ b ∈ cds.map (·.2) \/ ∃ o xs, H b = some (.frz o (.lst xs))) -> SqL K H a (nl.map V.int) -> HOk P w H sB.heap -> (∀ b, H b ≠ none -> b = a \/ b ∈ cds.map (·.2)) -> (H a ≠ none -> K.lookup a = none) ->
      codeAny (model P w) callerA (.call (.ref fad) ⟨[.ref a], []⟩) (fun r s' => r = .ok (.ret (.bool true)) /\ OldK sB.heap s'.heap /\ s'.os = sB.os /\ AllBare s'.gens) sB := by
    intro H hh0 on0 sq0 ok0 at0 lk0
    have bs0 : ∀ {b : Addr} {o : Obj}, sB.heap.get? b = some o -> H b = none -> (hidT sB.heap H).get? b = some o := fun e n => hidT_get e n
    have nof0 : ∀ {b : Addr} {o : Obj}, sB.heap.get? b = some o -> (∀ vl n, o.data ≠ .seq vl n) -> o.data ≠ .fields #[] -> H b = none := fun {b o} e ha1 ha2 => by
      cases q : H b with
      | none => rfl
      | some u =>
        rcases at0 b (by rw [q]; simp) with ee | ee
        · rw [ee, ha0] at e
          cases e
          exact (ha1 _ _ rfl).elim
        · rw [is0 b ee] at e
          cases e
          exact (ha2 rfl).elim
    have nod0 : ∀ {b : Addr} {o : Obj} {es : Array DictEntry} {epo : Nat}, sB.heap.get? b = some o -> o.data = .dict es epo -> H b = none := fun {b o es epo} e d => by
      refine nof0 e (fun vl n z => ?_) fun z => ?_
      · rw [d] at z
        cases z
      · rw [d] at z
        cases z
    have nsk0 : ∀ {b : Addr} {m : Str -> Option Value}, sB.heap.Ns b m -> (hidT sB.heap H).Ns b m := fun {b m} ⟨o, es, epo, e, d, r⟩ => ⟨o, es, epo, bs0 e (nod0 e d), d, r⟩
    have kb0 : K.In (hidT sB.heap H) := fun b o e => bs0 (kin0 b o e) (by
      cases q : H b with
      | none => rfl
      | some u =>
        rcases at0 b (by rw [q]; simp) with ee | ee
        · rw [ee] at e q
          rw [lk0 (by rw [q]; simp)] at e
          cases e
        · obtain ⟨p, ph0, epo⟩ := List.mem_map.mp ee
          rw [<- epo, nt0 p ph0] at e
          cases e)
    have md0 : L2.Mod K mg (hidT sB.heap H) := ⟨kb0, nsk0 ns0, ⟨mb, nsk0 hb0, bb0⟩, let ⟨mc, ha1, ha2⟩ := lim0; ⟨mc, nsk0 ha1, ha2⟩⟩
    have tbs : ∀ p ∈ cds, LamX.TabB (hidT sB.heap H) mg p.1 p.2 := fun p ph0 => by
      have tp0 := tb0 p ph0
      refine ⟨?_, ?_, fun z => ?_⟩
      · obtain ⟨o, ul, file, tf, flags, tg, inF, text, tt, ea, r1, r2, r3, r4, r5, r6, r7, r8, hne⟩ := Cc p ph0
        refine ⟨o, ul, file, tf, flags, tg, inF, text, tt, bs0 ea (nof0 ea (fun vl n z => ?_) fun z => ?_), r1, r2, r3, r4, r5, r6, r7, r8, hne⟩
        · rw [r2] at z
          cases z
        · rw [r2] at z
          cases z
          simp at r3
      · obtain ⟨bm, ob, b1, b2, b3, b4, b5, b6⟩ := bm0
        have ng0 : bm ≠ mainGlobals := fun q => by
          obtain ⟨o, es, epo, e, dh0, _⟩ := ns0
          rw [q, e] at b3
          cases b3
          rw [dh0] at b6
          cases b6
        have np0 : bm ≠ p.2 := fun q => by
          rw [q, tp0] at b3
          cases b3
          cases b6
        refine ⟨bm, ob, b1, b2, ng0, np0, bs0 b3 (nof0 b3 (fun vl n z => ?_) fun z => ?_), b4, b5, b6⟩
        · rw [b6] at z
          cases z
        · rw [b6] at z
          cases z
      · obtain ⟨o, es, epo, e, dh0, _⟩ := ns0
        rw [z, tp0] at e
        cases e
        cases dh0
    have en0 : Env0 P w K mg (hidT sB.heap H) callerA [] sB H := ⟨rfl, md0, fun b o e => of_hidT e, Nat.le_of_eq (hidT_size _ _), trivial, fun b hb0 => absurd (show b ∈ ([] : List Addr) from hb0) (by simp), ok0, .of_eq hg0⟩
    refine codeAny_mono ((Fn _ kb0 (nsk0 ns0) tbs).run callerA [] sB H ⟨[.ref a], []⟩ [.ref a] [.ref a] _ _ rm0 rfl en0 (bd0 sB (.ref a)) (.cons rfl .nil) (sp0 H hh0 on0 sq0)) fun r s' h => ?_
    cases r with
    | error e => exact (cx0 H e s' h).elim
    | ok fl =>
      cases fl with
      | next => exact False.elim h
      | brk => exact False.elim h
      | cont => exact False.elim h
      | ret u =>
        obtain ⟨v, H', os0, br0, un0, ok9, rr, q⟩ := h
        have qq : v = .bl true := q
        subst qq
        obtain rfl : u = Value.bool true := rr
        have ky0 : ∀ b o, b ∉ cds.map (·.2) -> sB.heap.get? b = some o -> s'.heap.get? b = some o := fun b o nb e => by
          cases q : H b with
          | none => exact un0.keep b o e q (by intro z; exact absurd (show b ∈ ([] : List Addr) from z) (by simp)) (by simp)
          | some u =>
            rcases on0 b with z | z | ⟨ob, xs, z⟩
            · rw [q] at z; cases z
            · exact absurd z nb
            · have zz2 := un0.frzs b ob _ z
              obtain ⟨ea, _⟩ := ok0 b _ z
              obtain ⟨eb, _⟩ := ok9 b _ zz2
              rw [e] at ea; cases ea
              exact eb
        have gr0 : ∀ p ∈ cds, ∃ more : Array Value, s'.heap.get? p.2 = some { cls := .none, data := .fields more } := fun p ph0 => by
          obtain ⟨more, z⟩ := un0.tbls p.2 #[] (hh0 p ph0)
          exact ⟨_, ok9 p.2 _ z⟩
        refine ⟨rfl, ⟨fun b o e => ?_, fun b o e => ?_⟩, os0, br0⟩
        · by_cases hb0 : b ∈ cds.map (·.2)
          · obtain ⟨p, ph0, epo⟩ := List.mem_map.mp hb0
            obtain ⟨more, mh0⟩ := gr0 p ph0
            rw [<- epo] at e ⊢
            rw [tb0 p ph0] at e
            cases e
            exact .inr (.inl ⟨((Cc p ph0).tab (tb0 p ph0)).isCodeTable, rfl, #[], more, rfl, by rw [Array.empty_append]; exact mh0⟩)
          · exact .inl (ky0 b o hb0 e)
        · by_cases hb0 : b ∈ cds.map (·.2)
          · obtain ⟨p, ph0, epo⟩ := List.mem_map.mp hb0
            obtain ⟨more, mh0⟩ := gr0 p ph0
            rw [<- epo]
            exact ⟨_, mh0⟩
          · exact ⟨o, ky0 b o hb0 e⟩
  cases hk0 : K.lookup a with
  | some o =>
    have e := kin0 a o hk0
    rw [ha0] at e
    cases e
    refine main0 (fun b => if b ∈ cds.map (·.2) then some (.tbl #[]) else none) (fun p ph0 => if_pos (me0 p ph0)) (fun b => ?_) (.inr ⟨_, vl.toArray, _, hk0, rfl, rfl, rfl, by rw [List.size_toArray, lv0]; exact hl0, by simpa using rv0⟩) (fun b u z => ?_) (fun b z => ?_) fun z => absurd (show (if a ∈ cds.map (·.2) then some (HO.tbl #[]) else none) = none from if_neg na0) z
    · by_cases hb0 : b ∈ cds.map (·.2)
      · exact .inr (.inl hb0)
      · exact .inl (if_neg hb0)
    · by_cases hb0 : b ∈ cds.map (·.2)
      · have zz := (if_pos hb0).symm.trans z
        cases zz
        exact is0 b hb0
      · have zz := (if_neg hb0).symm.trans z
        cases zz
    · by_cases hb0 : b ∈ cds.map (·.2)
      · exact .inr hb0
      · exact absurd (if_neg hb0) z
  | none =>
    refine main0 (fun b => if b = a then some (.frz { cls := .type "list", data := .seq vl.toArray } (.lst (nl.map V.int))) else if b ∈ cds.map (·.2) then some (.tbl #[]) else none) (fun p ph0 => (if_neg (show ¬ p.2 = a from fun z => na0 (by rw [<- z]; exact me0 p ph0))).trans (if_pos (me0 p ph0))) (fun b => ?_)
      (.inl (.inr ⟨{ cls := .type "list", data := .seq vl.toArray }, if_pos rfl⟩)) (fun b u z => ?_) (fun b z => ?_) fun _ => hk0
    · by_cases hb0 : b = a
      · exact .inr (.inr ⟨_, _, if_pos hb0⟩)
      · by_cases hb9 : b ∈ cds.map (·.2)
        · exact .inr (.inl hb9)
        · exact .inl ((if_neg hb0).trans (if_neg hb9))
    · by_cases hb0 : b = a
      · have zz := (if_pos hb0).symm.trans z
        cases zz
        rw [hb0]
        exact ⟨ha0, by rw [List.length_map]; exact hl0, vl, _, rv0, ha0⟩
      · have zz1 := (if_neg hb0).symm.trans z
        by_cases hb9 : b ∈ cds.map (·.2)
        · have zz := (if_pos hb9).symm.trans zz1
          cases zz
          exact is0 b hb9
        · have zz := (if_neg hb9).symm.trans zz1
          cases zz
    · by_cases hb0 : b = a
      · exact .inl hb0
      · by_cases hb9 : b ∈ cds.map (·.2)
        · exact .inr hb9
        · exact absurd ((if_neg hb0).trans (if_neg hb9)) z
theorem walk_ofG {l : PySem.W.OpenLaw} {n k : Nat} {q : Program} {loose : List Str} {XP : (Str -> Option Value) -> Heap -> Prop} {YP : World -> Heap -> Prop} {d : DefRec} {CX : World -> CXT} {x : Str}
    (hn : l.most = some n) (hn2 : n <= sizeLine) (hdf : d.params.defaults = []) (hr : Room k callerA)
    (F : ∀ (w : World) (mg : Str -> Option Value) (fa : Addr) (h : Heap), YP w h -> h.Ns mainGlobals mg -> mg d.name = some (.ref fa) ->
      ∃ (K : PySem.W.Frag) (fd : FuncData) (cs : List (Addr × Addr)) (sp : Sp), K.In h /\ (∀ p ∈ cs, h.get? p.2 = some { cls := .none, data := .fields #[] }) /\ (∀ p ∈ cs, K.lookup p.2 = none) /\ (∀ p ∈ cs, PySem.W.CodeHd h p.1 p.2) /\ (∀ (s : Shared) (u : Value), BindsTo s fd ⟨[u], []⟩ [(x, u)]) /\
        (∀ (H : Hp) (a : Addr) (ns : List Int), ns.length <= n -> (∀ p ∈ cs, H p.2 = some (.tbl #[])) -> (∀ b, H b = none \/ b ∈ cs.map (·.2) \/ ∃ o xs, H b = some (.frz o (.lst xs))) -> SqL K H a (ns.map V.int) -> sp [.ref a] H (fun v _ => v = .bl true) fun _ _ _ => False) /\
        ∀ base : Heap, K.In base -> base.Ns mainGlobals mg -> (∀ p ∈ cs, LamX.TabB base mg p.1 p.2) -> FnOkG l.prog w K mg base (CX w) k fa fd [x] sp)
    (hCX : ∀ (w : World) (H : Hp) (s : Shared) (e : Value) (s' : Shared), CX w [] H s (fun _ _ _ => False) e s' -> False) :
    PySem.W.WalkO q loose XP YP l.row.toRowW d [] (fun f vs => PySem.call f vs) := by
  refine Att.attach_call hn hdf fun w s0 s1 mg mb fa o pm cd doc a vs ns G Y ho hd hcd hmg hobj hints hlen hg => ?_
  obtain ⟨K, fd, cs, sp, KX, hT, nT, C, hb, hsp, hF⟩ := F w mg fa _ Y G.T.g hmg
  exact law_callG KX G.T.g G.T.b G.T.builtins G.T.nolimit hg hT nT C G.T.bmain hobj hints (Nat.le_trans hlen hn2) hr hF hb (fun H hH hO hS => hsp H a ns hlen hH hO hS) fun H e s' => hCX w H s1 e s'
def tabsOf (K : PySem.W.Frag) (tf : List He.Defn) (nm : He.Defn -> Str) : List (Addr × Str) := tf.map fun p => ((He.cT K p).2, nm p)
end
section
abbrev supCall (msg : Str) (j : Nat) (p0 p1 p2 p3 p4 : Pos) : Expr := .Call (.Attribute (.Call (.Name "super" p0) [] [] p1) "__init__" p2) [.Constant (.str msg) j p3] [] p4
def supRuns (env : Env) (msg fld : Str) (j : Nat) (p0 p1 p2 p3 p4 p5 p6 p7 p8 p9 : Pos) : Prop :=
  (∃ pl : Sem Bool, eval (supCall msg j p0 p1 p2 p3 p4) env = (do
      let ov <- attributeBase (.Call (.Name "super" p0) [] [] p1) "__init__" env (eval (.Call (.Name "super" p0) [] [] p1) env)
      standAt p2.atName
      let (f, first) <- holding [ov] (getMethod ov "__init__" pl)
      callWith p4 f first (backTo p4 (starEach [.Constant (.str msg) j p3] env)) [])) /\
    swapsWith (supCall msg j p0 p1 p2 p3 p4) none p5.line env = pure false /\ swapsWith (.Name fld p8) (some (.Attribute (.Name "self" p6) fld p7)) p9.line env = pure false
def supBody (msg fld : Str) (j : Nat) (p0 p1 p2 p3 p4 p5 p6 p7 p8 p9 : Pos) : List Stmt :=
  [.Expr (supCall msg j p0 p1 p2 p3 p4) p5, .Assign [.Attribute (.Name "self" p6) fld p7] (.Name fld p8) p9]
structure SupC (prog : Program) (K : PySem.W.Frag) (C fI : Addr) (fld : Str) : Prop where
  ox : OexC K C
  no : PySem.W.findIn K (.ref C) fld = some none
  iC : PySem.W.findIn K (.ref C) "__init__" = some (some (.ref fI))
  tI : PySem.W.typeIn K (.ref fI) = some (.type "function")
  me : PySem.W.mroIn K C (.ref C) = some true
  ve : PySem.W.subIn K (.ref C) (.type "ValueError") = some true
  su : PySem.W.ks_superIn K C C "__init__" = some (some (.builtin "ValueError.__init__"))
  op : PySem.W.nsIn K cStatics "thirdparty.any" = some none
  ng : PySem.W.nsIn K mainGlobals "super" = some none
  top : (prog.main.scope.names.lookup ("super" : Str)).isSome = false
  fn : ∃ (oc : Value) (od : Option Addr) (osl : Array (Option Value)) (qual : Str) (params : Arguments) (scope : Scope) (dV kV doc pm ct : Value) (an : Option Addr) (cda cc : Addr) (msg : Str) (j : Nat) (p0 p1 p2 p3 p4 p5 p6 p7 p8 p9 : Pos),
    K.lookup fI = some ⟨oc, od, .func (PySem.W.ksFn "__init__" qual params (supBody msg fld j p0 p1 p2 p3 p4 p5 p6 p7 p8 p9) scope dV kV doc pm an (.ref cda) ct cc), osl⟩ /\ PySem.W.codeIn K (.ref cda) qual = true /\
    (∃ (ccl : Value) (cdd : Option Addr) (vs : Array Value) (ccs : Array (Option Value)) (file : Str) (tf : Tok), K.lookup cda = some ⟨ccl, cdd, .fields vs, ccs⟩ /\ vs[2]? = some (.str file tf) /\ ((prog.main.file : Str) == file) = true) /\
    (∃ (cl : Value) (cld : Option Addr) (csl : Array (Option Value)), K.lookup cc = some ⟨cl, cld, .cell (some (.ref C)), csl⟩) /\
    (∀ (s : Shared) (a b : Value), BindsTo s (PySem.W.ksFn "__init__" qual params (supBody msg fld j p0 p1 p2 p3 p4 p5 p6 p7 p8 p9) scope dV kV doc pm an (.ref cda) ct cc) ⟨[a, b], []⟩ [("self", a), (fld, b)]) /\
    (∃ ar : Arg, (params.posonlyargs ++ params.args).head? = some ar /\ ar.arg = "self") /\
    (∀ x ∈ scope.names, x.2 ≠ .cell) /\ scope.isCoroutine = false /\ scope.isGenerator = false /\ scope.kind = .function /\
    scope.names.lookup ("super" : Str) = some .globalImplicit /\ scope.names.lookup ("__class__" : Str) = some .free /\ scope.names.lookup ("self" : Str) = some .local /\ scope.names.lookup fld = some .local /\ (fld == ("__debug__" : Str)) = false /\ (("self" : Str) == fld) = false /\ ∀ L : Addr, supRuns (PySem.W.ksEnv qual scope L fI (.ref cda) cc) msg fld j p0 p1 p2 p3 p4 p5 p6 p7 p8 p9
section
variable {prog : Program} {w : World} {A : Around} {K : PySem.W.Frag} {C fI e t0 : Addr} {fld : Str} {u : Value} {R : Result -> Shared -> Prop} {mg mb : Str -> Option Value}
open PySem.W PySem.Calls in
theorem sup_initA {s : Shared} {ar : Args} (T : SupC prog K C fI fld) (hbi : ∀ (fd : FuncData) (oc : Value) (od : Option Addr) (osl : Array (Option Value)), K.lookup fI = some ⟨oc, od, .func fd, osl⟩ -> (∀ (s : Shared) (a b : Value), BindsTo s fd ⟨[a, b], []⟩ [("self", a), (fld, b)]) -> BindsTo s fd ar [("self", .ref e), (fld, u)]) (X : K.In s.heap) (gl : s.heap.Ns mainGlobals mg) (bl : s.heap.Ns builtinsNs mb) (hbb : ∀ x : Str, x ≠ "__name__" -> mb x = bootBuiltins x) (lim : s.heap.NoLimit) (room : A.depth < recursionLimit)
    (hKe : K.lookup e = none) (he : s.heap.get? e = some (HandSPX.excO C t0))
    (hq : ∀ h' tk' dx t1, (∀ b o, b ≠ e -> s.heap.get? b = some o -> h'.get? b = some o) -> s.heap.objs.size <= dx -> dx ≠ e -> h'.get? e = some ({ cls := .ref C, dict := some dx, data := .fields #[.ref t1, .none, .none, .none, .bool false, .none] } : Obj) ->
      h'.Ns1 dx (fun y => if y = fld then some u else none) -> R (.ok (.ret .none)) { s with heap := h', toks := tk' }) :
    codeAny (model prog w) A (.call (.ref fI) ar) R s := by
  obtain ⟨nm, q, N, bs, bm, sn, sub, ab, col, dd, k0, k1, k2, k3, k5, hC, hbm⟩ := T.ox.cls
  obtain ⟨oc, od, osl, qual, params, scope, dV, kV, doc, pm, ct, an, cda, cc, msg, j, p0, p1, p2, p3, p4, p5, p6, p7, p8, p9, lk, hcd, ⟨ccl, cdd, vs, ccs, file, tf, hcode, hvs, hfile⟩, ⟨cl, cld, csl, hcell⟩, hbind, ⟨ar, hp, har⟩, hnc, hco, hgen, hk, hks, hkc, hka, hkf, hfd, hsf, hrun⟩ := T.fn
  have hcl : clsIn K C = some { name := nm, bases := bs, mro := .ref C :: bm, ns := N, qualname := q, hasDict := true, slotNames := sn, subclasses := sub, abstract := ab, collection := col, hasDel := false } := by unfold clsIn; rw [hC] <;> rfl
  refine ks_codeAny_call_defAt room (X _ _ lk) rfl lim (codeRec_of X hcd) rfl (hbi _ _ _ _ lk fun s a b => hbind s a b) hnc (fun y hy => ?_) (fun h0 ns0 k0' => ?_) hco hgen hk
  · simp only [List.mem_cons, List.not_mem_nil, or_false] at hy
    rcases hy with rfl | rfl
    · exact hka
    · exact hkf
  have lte : e < s.heap.objs.size := Heap.lt_size he
  have X0 : K.In h0 := X.keeps k0'
  have he0 := k0' _ _ he
  have hself : (fun x => ([("self", Value.ref e), (fld, u)] : List (Str × Value)).reverse.lookup x) "self" = some (.ref e) := by
    show ([(fld, u), ("self", Value.ref e)] : List (Str × Value)).lookup ("self" : Str) = _
    rw [List.lookup_cons, hsf]
    rfl
  have hfld : (fun x => ([("self", Value.ref e), (fld, u)] : List (Str × Value)).reverse.lookup x) fld = some u := by
    show ([(fld, u), ("self", Value.ref e)] : List (Str × Value)).lookup fld = _
    rw [List.lookup_cons, beq_self_eq_true]
  show _root_.PySem.wpAt (model prog w) _ _ (execs (supBody msg fld j p0 p1 p2 p3 p4 p5 p6 p7 p8 p9) (ksEnv qual scope s.heap.objs.size fI (.ref cda) cc)) _ _ _
  obtain ⟨⟨pl, hev⟩, hsw1, hsw2⟩ := hrun s.heap.objs.size
  refine ks_wpAt_execs_cons (ks_wpAt_Expr_any (ks_wpAt_MethodCall ?_ hev) (by simp [interactive, hk]) hsw1)
  refine ks_wpAt_super_base (env := ksEnv qual scope s.heap.objs.size fI (.ref cda) cc) hks hkc (by decide) rfl (X0 _ _ lk) rfl hp rfl (X0 _ _ hcode) rfl hvs hfile T.top ?_
  refine ks_loadName_global hk hks (loadGlobal_builtin (env := ksEnv qual scope s.heap.objs.size fI (.ref cda) cc) (gl.keeps k0') (mg_none_of X gl T.ng) (bl.keeps k0') ((hbb _ (by decide +kernel)).trans (by decide +kernel)) ⟨rfl, ?_⟩)
  refine wpAny_loadName_free hk hkc rfl ⟨_, X0 _ _ hcell, rfl⟩ ?_
  rw [har]
  refine wpAny_loadName_local hk hka ns0 hself ?_
  refine ks_wpAny_isType_cls (X0 _ _ hC) rfl ⟨rfl, ?_⟩
  refine ks_wpAny_call_super (X0 _ _ hC) rfl he0 rfl (fun c z => by cases z) (looks_mroIn X0 T.me) (fun h1 hso k1' => ?_)
  have kA : ∀ b o, s.heap.get? b = some o -> h1.get? b = some o := fun b o z => k1' b o (k0' b o z)
  have X1 : K.In h1 := X0.keeps k1'
  have he1 := k1' _ _ he0
  have I1 : W.InstAt h1 e (HandSPX.excO C t0) C none := ⟨he1, rfl, rfl, trivial⟩
  have LT : Looks (model prog w) h1 (typeOf (.ref e)) (.ref C) := fun A Q E s k q => wpAny_typeOf_ref (k _ _ he1) q
  have su := T.su
  unfold ks_superIn at su
  rw [hcl] at su
  refine kxs_getMethod kxs_ValueError hso (looks_opaque X1 T.op) (l₀ := .ref C :: bm) (fun A Q E s k q => wpAny_bind ((looks_clsIn X1 hcl) A _ E s k (wpAny_pure q))) rfl X1 su (LT.andThen (looks_subIn X1 T.ve)) (ks_ne X1 I1 hcl) (by decide) ?_
  have lt1 : e < h1.objs.size := Heap.lt_size he1
  have kB : ∀ b o, h1.get? b = some o -> (h1.push (kxs_mw "ValueError.__init__" e)).get? b = some o := fun b o z => Heap.get?_push_of_some _ z
  have hu : (h1.push (kxs_mw "ValueError.__init__" e)).get? h1.objs.size = some (kxs_mw "ValueError.__init__" e) := Heap.get?_push_at rfl rfl
  refine kxs_callWith (i := "ValueError.__init__") (x := e) rfl (evalArgs_plain ?_)
  show wpAny _ _ (spliced ((false, eval (.Constant (.str msg) j p3) _) :: [])) _ _ _
  refine Calls.spliced_cons (Calls.Constant_str (Calls.spliced_nil ⟨hu, ?_⟩))
  have he2 := kB _ _ he1
  refine wpAny_call (codeAny_of_tree ?_)
  show wpAny _ _ (callAny (.ref h1.objs.size) ⟨[.str msg _], []⟩) _ _ _
  simp only [callAny]
  refine wpAny_bind (wpAny_load hu ?_)
  simp only [show (Value.type "method-wrapper" == Value.type "method" || Value.type "method-wrapper" == Value.type "builtin_function_or_method" || Value.type "method-wrapper" == Value.type "method-wrapper") = true by decide, if_true]
  refine KFB.if_so (by decide) ?_
  refine wpAny_bind (check_bound_init F.excBase_ValueError.toExcCallFacts (kB _ _ (X1 _ _ hC)) he2 rfl ?_)
  refine wpAny_bind (wpAny_pure (wpAny_pure ?_))
  refine ⟨plainId_quiet F.excBase_ValueError.init.plain _, codeAny_builtin F.excBase_ValueError.initEntry ?_⟩
  refine exc_init_tree (cls := .ref C) (t0 := t0) (dv := none) (c2 := .none) (c3 := .none) (b4 := .bool false) he2 (by show 1 <= sizeLine; rw [sizeLine_eq]; omega) fun h3 k3' he3 _ => ?_
  have neL : s.heap.objs.size ≠ e := fun z => absurd lte (by rw [<- z]; exact Nat.lt_irrefl _)
  have kC : ∀ b o, b ≠ e -> h0.get? b = some o -> h3.get? b = some o := fun b o hb z => k3' b o hb (kB b o (k1' b o z))
  have ns3 : h3.Ns s.heap.objs.size (fun x => ([("self", Value.ref e), (fld, u)] : List (Str × Value)).reverse.lookup x) := by
    obtain ⟨o, es, ep, z1, z2⟩ := ns0
    exact ⟨o, es, ep, kC _ _ neL z1, z2⟩
  have X3 : K.In h3 := fun b o z => k3' b o (fun y => by rw [y, hKe] at z; cases z) (kB _ _ (X1 b o z))
  show _root_.PySem.wpAt (model prog w) _ _ (execs [.Assign [.Attribute (.Name "self" p6) fld p7] (.Name fld p8) p9] (ksEnv qual scope s.heap.objs.size fI (.ref cda) cc)) _ _ _
  refine ks_wpAt_execs_cons (ks_wpAt_Assign_Attr (wpAt_of_wpAny (wpAny_Name (wpAny_loadName_local hk hkf ns3 hfld (wpAny_Name (wpAny_loadName_local hk hka ns3 hself ?_) (by decide))) hfd)) hsw2)
  have he3' : h3.get? e = some ({ cls := .ref C, data := .fields #[.ref (h1.push (kxs_mw "ValueError.__init__" e)).objs.size, .none, .none, .none, .bool false, .none] } : Obj) := he3
  refine set_plain X3 (ox := { cls := .ref C, data := .fields #[.ref (h1.push (kxs_mw "ValueError.__init__" e)).objs.size, .none, .none, .none, .bool false, .none] }) (od := none) ⟨he3', rfl, rfl, trivial⟩ T.ox.sa ?_
  refine HandSPX.exc_osa X3 he3' hcl (show HandSPX.refsVE (.ref C :: bm) = true from hbm) rfl T.no (fun h' tk' dx k4 dn dne hx hn => ?_)
  refine wpAt_of_wpAny (wpAny_execs_nil ?_)
  refine hq h' tk' dx _ (fun b o hb z => k4 b o hb (kC b o hb (k0' b o z))) ?_ dne hx hn
  have l0 : s.heap.objs.size < h0.objs.size := by
    obtain ⟨o, es, ep, z1, z2⟩ := ns0
    exact Heap.lt_size z1
  obtain ⟨o, es, ep, z1, z2⟩ := ns3
  exact Nat.le_of_lt (Nat.lt_of_lt_of_le (Heap.lt_size z1) dn)
theorem sup_init {s : Shared} (T : SupC prog K C fI fld) (X : K.In s.heap) (gl : s.heap.Ns mainGlobals mg) (bl : s.heap.Ns builtinsNs mb) (hbb : ∀ x : Str, x ≠ "__name__" -> mb x = bootBuiltins x) (lim : s.heap.NoLimit) (room : A.depth < recursionLimit)
    (hKe : K.lookup e = none) (he : s.heap.get? e = some (HandSPX.excO C t0))
    (hq : ∀ h' tk' dx t1, (∀ b o, b ≠ e -> s.heap.get? b = some o -> h'.get? b = some o) -> s.heap.objs.size <= dx -> dx ≠ e -> h'.get? e = some ({ cls := .ref C, dict := some dx, data := .fields #[.ref t1, .none, .none, .none, .bool false, .none] } : Obj) ->
      h'.Ns1 dx (fun y => if y = fld then some u else none) -> R (.ok (.ret .none)) { s with heap := h', toks := tk' }) :
    codeAny (model prog w) A (.call (.ref fI) ⟨[.ref e, u], []⟩) R s := sup_initA T (fun _ _ _ _ _ h => h s _ _) X gl bl hbb lim room hKe he hq
end
section
variable {X : Cx} {e : Expr} {te : TE} {p pos : Pos} {x fld : Str} {C fI : Addr}
theorem pmk_sup {k : Nat} {ta : TA} (T : SupC X.prog X.K C fI fld) (hr : Room (k + 1) X.A) (hg : Gl X x) (hm : X.mg x = some (.ref C)) (ha : PA X [e] ta) (hdb : (x == ("__debug__" : Str)) = false := by decide)
    (hs : starEach [e] X.env = (false, eval e X.env) :: starEach [] X.env := by rfl) :
    PMk X (.Call (.Name x p) [e] [] pos) (fun sg H Q => ta sg H fun vs H1 => ∃ v, vs = [v] /\ ∀ d, H1 d = none -> Q (.ref C) (some d) (upd H1 d (.xd [(fld, v)]))) := by
  intro pins s sg H Q I h
  obtain ⟨nm, q, N, bs, bm, sn, sub, ab, col, dd, k0, k1, k2, k3, k5, hC, hbm⟩ := T.ox.cls
  refine wpAny_Call_Name_kw (ld_glob I hg hm ?_ hdb)
  refine PySem.W.callWith_K (h₀ := X.base) I.ok.mod.kin T.ox.kC (thn (ha.run pos pins s sg H _ I h) fun us s1 ⟨vs, H1, I1, r1, v, ev, q1⟩ => ⟨I1.kIn, ?_⟩) hs
  subst ev
  obtain ⟨u, rfl, ru⟩ := vals1 r1
  show wpAny _ _ (call (.ref C) [u]) _ _ _
  obtain ⟨hp, g, dr, tk, os⟩ := s1
  have kk : ∀ b o, hp.get? b = some o -> ((hp.push (PySem.W.kdv_tup [u])).push (PySem.HandSPX.excO C hp.objs.size)).get? b = some o := fun b o e => Heap.get?_push_of_some _ (Heap.get?_push_of_some _ e)
  have hget : ((hp.push (PySem.W.kdv_tup [u])).push (PySem.HandSPX.excO C hp.objs.size)).get? (hp.objs.size + 1) = some (PySem.HandSPX.excO C hp.objs.size) := by heap_get
  have hsz : hp.objs.size <= hp.objs.size + 1 := Nat.le_succ _
  have hKe : X.K.lookup (hp.objs.size + 1) = none := by
    cases z : X.K.lookup (hp.objs.size + 1) with
    | none => rfl
    | some o =>
      have := Heap.lt_size (I1.kIn _ _ z)
      exact absurd this (by show ¬ (hp.objs.size + 1 < hp.objs.size); omega)
  obtain ⟨mb, hb1, hb2⟩ := I1.mod.blt
  refine wpAny_call (PySem.HandSPX.call_own F.excBase_ValueError (fun Y => PySem.HandSPX.refsVE_contains Y bm hbm) (I1.kIn _ _ hC) (PySem.W.looks_findIn I1.kIn T.iC) (fun self => PySem.W.bind_fn I1.kIn self T.tI) (by show 1 <= sizeLine; rw [sizeLine_eq]; omega)
    (sup_init (mg := X.mg) (mb := mb) T (I1.kIn.keeps kk) ((I1.mod.glob.keeps I1.bk).keeps kk) ((hb1.keeps I1.bk).keeps kk) hb2 (I1.nolimit.keeps kk) (hr.make C [u] []).depth hKe hget fun h2 tk2 dx t1 k2' dn dne hx hn => ⟨rfl, ?_⟩))
  obtain ⟨G, g1, g2⟩ := restrict h2 fun b => decide (b ≠ hp.objs.size + 1)
  have gk : ∀ b, b ≠ hp.objs.size + 1 -> G.get? b = h2.get? b := fun b hb => g1 b (decide_eq_true hb)
  have ge : G.get? (hp.objs.size + 1) = none := g2 _ (by simp)
  have dn' : hp.objs.size <= dx := Nat.le_trans (Nat.le_trans (Nat.le_succ _) (Nat.le_succ _)) (by simpa using dn)
  have kG : ∀ b o, hp.get? b = some o -> G.get? b = some o := fun b o z => by
    have hb : b ≠ hp.objs.size + 1 := fun y => by
      have y2 : b < hp.objs.size := Heap.lt_size z
      rw [y] at y2
      exact absurd y2 (by show ¬ (hp.objs.size + 1 < hp.objs.size); omega)
    rw [gk b hb]
    exact k2' b o hb (kk b o z)
  have new : ObjOk X.prog X.w (upd H1 dx (.xd [(fld, v)])) G dx (.xd [(fld, v)]) := ⟨_, hn.at fun o y => (gk dx dne).trans y, relO_put (fs := []) ru fun g => True.intro⟩
  have J := I1.laid (t' := tk2) (a := dx) (o := .xd [(fld, v)]) (h' := G) kG dn' new
  have nd1 : H1 dx = none := I1.hok.fresh dn'
  refine ⟨hp.objs.size + 1, _, _, ⟨G, g, dr, tk2, os⟩, _, .ref C, some dx, rfl, J, fun b o z => ?_, ge, hx, ⟨rfl, rfl⟩, rfl, rfl, ?_, rfl, I1.bare, raises_own T.ox.exC T.ox.tyC, q1 dx nd1⟩
  · by_cases hb : b = hp.objs.size + 1
    · rw [hb, ge] at z; cases z
    · exact (gk b hb).symm.trans z
  · rw [upd_ne (Ne.symm dne)]
    exact I1.hok.fresh hsz
end
end
section
section
variable {X : Cx} {dl : Dr X.w X.K X.mg} {W : WX} {pos p cp p2 : Pos} {x m fld : Str} {j : Nat} {e : Expr} {f : SE} {C fI : Addr}
def sThrow0 (c : Str) : SS := fun _ => throw ⟨c, [], []⟩
def sThrow1 (c fld : Str) (f : SE) : SS := fun G => bnd (f G) fun d => throw ⟨c, [fld], [d]⟩
structure Exc0 (K : PySem.W.Frag) (mg : Str -> Option Value) (c : Str) : Prop where
  ex : ∃ C, mg c = some (.ref C) /\ PySem.W.excIn K C [.type "ValueError", .type "Exception", .type "BaseException", .type "object"] "ValueError.__new__" = true /\ PySem.W.keepIn K (.ref C) = true /\ PySem.W.subIn K (.ref C) (.type "BaseException") = some true /\ PySem.W.typeIn K (.ref C) = some (.type "type")
structure Exc1 (prog : Program) (K : PySem.W.Frag) (mg : Str -> Option Value) (c fld : Str) : Prop where
  ex : ∃ C fI, mg c = some (.ref C) /\ SupC prog K C fI fld
theorem ds_raise0 (T : Exc0 X.K X.mg x) (hc : X.calm = true) (tk : Takes X W) (hg : Gl X x := by rfl) (hdb : (x == ("__debug__" : Str)) = false := by decide) :
    DSt X dl W (.Raise (some (.Call (.Name x p) [.Constant (.str m) j p2] [] cp)) none pos) (sThrow0 x) := by
  obtain ⟨C, h1, h2, h3, h4, h5⟩ := T.ex
  refine PS.of (ps_raise hc tk (pmk_own F.excBase_ValueError h2 h1 h3 (raises_own h4 h5) hg hdb)) fun E sg H q => ?_
  obtain ⟨F0, H0, F, G, s, w, S, g⟩ := q
  exact g F H sg (.ref C) none S.st w ⟨C, h1, rfl, .inl ⟨rfl, rfl, rfl⟩⟩
theorem ds_raise1 {k : Nat} (T : Exc1 X.prog X.K X.mg x fld) (hc : X.calm = true) (hr : Room (k + 1) X.A) (tk : Takes X W) (he : DE X dl W e f) (hg : Gl X x := by rfl) (hdb : (x == ("__debug__" : Str)) = false := by decide)
    (hs : starEach [e] X.env = (false, eval e X.env) :: starEach [] X.env := by rfl) :
    DSt X dl W (.Raise (some (.Call (.Name x p) [e] [] cp)) none pos) (sThrow1 x fld f) := by
  obtain ⟨C, fI, h1, h2⟩ := T.ex
  refine PS.of (ps_raise hc tk (pmk_sup h2 hr hg h1 (pa_cons he pa_nil hs) hdb hs)) fun E sg H q => ?_
  obtain ⟨F0, H0, F, G, s, w, S, g⟩ := q
  refine ⟨F, F0, H0, G, s, w, S, (g.ex S.st).imp fun d s1 F1 H1 st1 w1 g1 v rv => ⟨v, rfl, fun dx hdx => ?_⟩⟩
  refine g1 (upd F1 dx (.xd [(fld, v)])) (upd H1 dx (.xd [(fld, v)])) sg (.ref C) (some dx) ((S.st.trans st1).trans (Step.new w1 hdx)) (w1.new hdx) ⟨C, h1, rfl, .inr ⟨by simp, dx, [v], rfl, upd_same, rfl, ?_⟩⟩
  exact ⟨v, [], rfl, Rep.mono (Step.new w1 hdx).fs d v rv, rfl⟩
end
theorem exK_ok {P : Program} {w : World} {H : Hp} {h : Heap} {a : Addr} {cls : Value} {d : Option Addr} {oe : Obj} {vs : Array Value} (e : h.get? a = some oe) (z : Zc cls d oe) (hd : oe.data = .fields vs) : ObjOk P w H h a (ExK a cls d) :=
  ⟨⟨oe, vs, e, z, hd⟩, ⟨oe, e⟩, fun _ _ ⟨o, v, q, r⟩ k => ⟨o, v, k o q, r⟩⟩
theorem exK_at {P : Program} {w : World} {H : Hp} {h : Heap} {a : Addr} {cls : Value} {d : Option Addr} (hok : HOk P w H h) (he : H a = some (ExK a cls d)) : ∃ (oe : Obj) (vs : Array Value), h.get? a = some oe /\ Zc cls d oe /\ oe.data = .fields vs := by
  have x : ObjOk P w H h a (.ext fun h => ∃ (oe : Obj) (vs : Array Value), h.get? a = some oe /\ Zc cls d oe /\ oe.data = .fields vs) := hok a _ he
  exact x.1
section
variable {X : Cx} {x n : Str} {c : Value} {i : Nat} {body suite : List Stmt} {b₀ : Stmt} {np pos pos' : Pos} {tb : WX -> TS} {ts : Addr -> Value -> Option Addr -> TS} {Wout : WX}
def wKp (K : PySem.W.Frag) (c : Value) (l i : Nat) (ts : Addr -> Value -> Option Addr -> TS) (Wout : WX) (D : Ends) : WX := fun cls d sg H => sg.length = l ->
  ∃ b, PySem.W.exmOne K cls c = some b /\ (b = true -> ∀ a, H a = none -> ts a cls d { nx := fun sg' H' => D.nx (sg'.set i none) H', rt := D.rt, bk := fun sg' H' => D.bk (sg'.set i none) H', ct := fun sg' H' => D.ct (sg'.set i none) H' } (sg.set i (some (.ref a))) (upd H a (ExK a cls d))) /\
    (b = false -> Wout cls d sg H)
theorem Inv.suite0 {pins : List (Addr × Obj)} {sg : L2.St} {H : Hp} {s : Shared} (I : Inv X pins sg H s) (a : Addr) : Inv (X.suite a (X.pn ++ pins)) [] sg H s :=
  ⟨I.ok.suite _ _, I.os, I.bare, I.base, I.loc, I.cell, I.free, I.freeC, fun p hp => I.pin p (by rw [List.append_nil] at hp; exact hp), I.hok, I.len⟩
theorem Inv.unsuite0 {pins : List (Addr × Obj)} {sg : L2.St} {H : Hp} {s : Shared} {a : Addr} {pn' : List (Addr × Obj)} (I : Inv (X.suite a (X.pn ++ pins)) pn' sg H s) (ok : X.Ok) : Inv X pins sg H s :=
  ⟨ok, I.os, I.bare, I.base, I.loc, I.cell, I.free, I.freeC, fun p hp => I.pin p (List.mem_append_left _ hp), I.hok, I.len⟩
theorem ps_try_kept (stk : X.stack = X.env :: X.outer) (frm : X.env.frame = some X.env.locals) (nodu : X.N.Nodup) (ati : X.N[i]? = some n) (isl : X.env.kindOf n = some .local) (nam : L2.Names X x c) (tkO : Takes X Wout)
    (bdy : ∀ (W : WX) (pn : List (Addr × Obj)) (xe : Value -> Shared -> Prop), Takes (X.tr pn xe) W -> PassesOwn (model X.prog X.w) X.A X.env xe -> PSs (X.tr pn xe) body (tb W))
    (sui : ∀ (a : Addr) (cls : Value) (d : Option Addr) (pn : List (Addr × Obj)), PSs (X.suite a pn) (b₀ :: suite) (ts a cls d)) :
    PS X (.Try body [.ExceptHandler (some (.Name x np)) (some n) (b₀ :: suite) pos'] [] [] pos) (fun D sg H => tb (wKp X.K c X.N.length i ts Wout D) D sg H) := by
  refine ⟨fun pins s sg H D I0 rd => ?_⟩
  have okX := I0.ok
  have fram : X.A.frames = some (X.env :: X.outer) := by rw [okX.frames, stk]
  have locn : Loc X.env.scope n := .inl isl
  refine wpAny_Try_except ?_
  refine wpAny_mono ((bdy (wKp X.K c X.N.length i ts Wout D) (X.pn ++ pins) (fun e s₁ => wpAny (model X.prog X.w) X.A (noteFrame e X.env) (fun _ s₂ => wpAny (model X.prog X.w) X.A (setFlight e none) (fun _ s₃ =>
    wpAny (model X.prog X.w) X.A (handleBy e X.env [.ExceptHandler (some (.Name x np)) (some n) (b₀ :: suite) pos']) (SP X pins D) X.xe s₃) X.xe s₂) X.xe s₁) (fun u s' fly => ?_) PassesOwn.looking).run [] s sg H D (I0.toTry _) rd) (fun f s1 spq => ?_) (fun e s1 z => z)
  · obtain ⟨a, B, sI, pins2, sg2, H2, cls, d, rfl, Jt, nob, upI, sky, noA, oss, bar, wz⟩ := fly
    obtain ⟨b, hb1, yes, nay⟩ := wz Jt.len
    have J : Inv X pins sg2 H2 sI := Jt.ofTry okX
    have sky2 : Sky B (X.env :: X.outer) a (Zc cls d) X.env.locals s'.heap := by rw [<- stk]; exact sky
    show wpAny (model X.prog X.w) X.A (noteFrame (.ref a) X.env) _ _ _
    refine Sky.land Zc.steady fram frm sky2 fun h3 fl3 up3 => ?_
    have J3 : Inv X pins sg2 H2 { s' with heap := h3 } := J.landed nob fl3.1 (upI.trans up3) oss bar
    obtain ⟨oe3, vs3, at3, z3, dat3⟩ := fl3.there
    have outF : ∀ {h : Heap} {o : Obj} {vs : Array Value}, h.FunFrames B (X.env :: X.outer) -> h.get? a = some o -> o.data = .fields vs -> a ∉ frs (X.env :: X.outer) := fun {h o vs} ff e dd hm => by
      obtain ⟨_, o', e', hnf⟩ := ff.mem hm
      rw [e] at e'
      cases e'
      exact hnf _ dd
    have outA := outF fl3.2.2.1 at3 dat3
    have notL : a ≠ X.env.locals := fun z => outA (List.mem_filterMap.mpr ⟨X.env, List.mem_cons_self, by rw [frm, z]⟩)
    have notF : a ∉ X.fs := fun hm => by
      obtain ⟨e, he, q⟩ := List.mem_filterMap.mp hm
      exact outA (List.mem_filterMap.mpr ⟨e, List.mem_cons_of_mem _ he, q⟩)
    have S3 := J3.suite at3 dat3 noA notL notF
    refine wpAny_handleBy_cons (codeAny_handlers_test ?_) (by intro q; cases q)
    have lt : PySem.W.Looks (model X.prog X.w) h3 (typeOf (.ref a)) cls := fun A Q E s k q => wpAny_typeOf_ref (k _ _ at3) (by rw [z3.1]; exact q)
    have lm := PySem.W.exm_one (M := model X.prog X.w) (J3.kIn) lt hb1
    have tst : ∀ {Q : Value -> Shared -> Prop} {E : Value -> Shared -> Prop}, Q c { s' with heap := h3 } -> wpAny (model X.prog X.w) (X.A.mark (some (.ref a))) (eval (.Name x np) X.env) Q E { s' with heap := h3 } := fun {Q E} q => by
      obtain ⟨hg, hdbg, hm | ⟨hm, hv, hnn⟩⟩ := nam
      · exact ld_glob (X := X.suite a ((a, oe3) :: (X.pn ++ pins))) S3 hg hm q hdbg
      · exact ld_blt (X := X.suite a ((a, oe3) :: (X.pn ++ pins))) S3 hg hm hv q hnn hdbg
    refine tst (lm.here ?_)
    cases b with
    | true =>
      refine codeAny_handlers_suite_as ?_
      refine HandSPX.lands_againZ fl3 fun h4 fl4 up4 => ?_
      obtain ⟨oe4, vs4, at4, z4, dat4⟩ := fl4.there
      obtain ⟨G, g1, g2⟩ := restrict h4 fun b => decide (b ≠ a)
      have gk : ∀ b, b ≠ a -> G.get? b = h4.get? b := fun b hb => g1 b (decide_eq_true hb)
      have ga : G.get? a = none := g2 a (by simp)
      have Ba : B.get? a = none := fl4.2.1
      have stG : B.StaysIn G := fun b o z => by
        rw [gk b (fun y => by rw [y, Ba] at z; cases z)]
        exact fl4.1 b o z
      have upG : sI.heap.UpToSlots G := fun b o z hn => by
        have nb2 : b ≠ a := fun y => by
          subst y
          have := nob b o z (by rw [stk]; exact outA)
          rw [Ba] at this
          cases this
        rw [gk b nb2]
        exact ((upI.trans up3).trans up4) b o z hn
      have J4 : Inv X pins sg2 H2 { s' with heap := G } := J.landed nob stG upG oss bar
      have T4 : Inv X pins sg2 (upd H2 a (ExK a cls d)) { s' with heap := h4 } := J4.laidN (h' := h4) (t' := s'.toks) (fun b u z => (gk b (fun y => by rw [y, ga] at z; cases z)).symm.trans z) ga noA (exK_ok at4 z4 dat4)
      refine store_ok (X := X.suite a (X.pn ++ pins)) (v := .ref a) (Inv.suite0 T4 a) nodu ati locn rfl (fun s5 S5 => ?_) (.inr isl)
      refine wpAny_mono ((sui a cls d (X.pn ++ pins)).run [] s5 _ _ _ S5 (yes rfl a noA)) (fun f s6 spq => ?_) (fun _ _ z => False.elim z)
      have fin : ∀ {sg6 : L2.St} {H6 : Hp} {Q : Shared -> Prop}, Inv (X.suite a (X.pn ++ pins)) [] sg6 H6 s6 -> (∀ s7, Inv X pins (sg6.set i none) H6 s7 -> Q s7) ->
          wpAny (model X.prog X.w) X.A (do bindName X.env n .none; unbindBehindTheSuite X.env n pos') (fun _ s7 => Q s7) X.xe s6 := fun {sg6 H6 Q} S6 hq => gone_ok (Inv.unsuite0 S6 okX) nodu ati isl hq
      match f, spq with
      | .next, z => obtain ⟨sg6, H6, S6, q6⟩ := z; exact fin S6 fun s7 J7 => ⟨_, _, J7, q6⟩
      | .brk, z => obtain ⟨sg6, H6, S6, q6⟩ := z; exact fin S6 fun s7 J7 => ⟨_, _, J7, q6⟩
      | .cont, z => obtain ⟨sg6, H6, S6, q6⟩ := z; exact fin S6 fun s7 J7 => ⟨_, _, J7, q6⟩
      | .ret u, z => obtain ⟨v6, sg6, H6, S6, r6, q6⟩ := z; exact fin S6 fun s7 J7 => ⟨_, _, _, J7, r6, q6⟩
    | false =>
      show wpAny _ X.A (handleBy (.ref a) X.env []) _ _ _
      refine wpAny_handleBy_nil ?_
      obtain ⟨k1, k2, k3, oe, vs, Tt, oT, ts', he, hz, hd, h1, hr⟩ := id fl3
      unfold PySem.passOn
      refine wpAny_bind (wpAny_field he hd h1 ?_)
      rw [if_neg (show ¬ ((Value.ref Tt == Value.none) = true) from by simp)]
      have out2 : wpAny (model X.prog X.w) X.A (setFlight (.ref a) X.env.frame) (fun _ s4 => wpAny (model X.prog X.w) X.A (MonadExcept.throw (Value.ref a) : Sem Flow) (SP X pins D) X.xe s4) X.xe { s' with heap := h3 } := by
        rw [frm]
        refine HandSPX.setFlight_upZ fl3 fun h4 hh4 up4 => wpAny_throw (tkO _ _ ?_)
        exact ⟨a, B, sI, pins, sg2, H2, cls, d, rfl, J, nob, (upI.trans up3).trans up4, .inr (.inr (by rw [stk]; exact hh4)), noA, oss, bar, nay rfl⟩
      first
        | exact wpAny_bind (wpAny_pure (wpAny_bind out2))
        | exact wpAny_bind out2
  · match f, spq with
    | .next, z => obtain ⟨sg', H', J', q⟩ := z; exact wpAny_execs_nil ⟨sg', H', J'.ofTry okX, q⟩
    | .brk, z => obtain ⟨sg', H', J', q⟩ := z; exact ⟨sg', H', J'.ofTry okX, q⟩
    | .cont, z => obtain ⟨sg', H', J', q⟩ := z; exact ⟨sg', H', J'.ofTry okX, q⟩
    | .ret u, z => obtain ⟨v, sg', H', J', r, q⟩ := z; exact ⟨v, sg', H', J'.ofTry okX, r, q⟩
end
end
end EK
namespace EK
open PySem PySem.Spec PyProof.Rows L2 LamX
section
structure ExtM (H H' : Hp) : Prop where
  ex : ExtN H H'
  nw : ∀ b o, H' b = some o -> H b = some o \/ (∃ p1 p2, o = .tbl p1 /\ H b = some (.tbl p2)) \/ (∃ c q, o = CodeO c q /\ H b = none)
theorem ExtM.refl (H : Hp) : ExtM H H := ⟨ExtN.refl H, fun _ _ e => .inl e⟩
section
variable {X : Cx} {pins : List (Addr × Obj)} {σ : L2.St} {H : Hp} {st : Shared}
theorem lam_makeM {T : List (Addr × Str)} {c P : Addr} {params : Arguments} {body : Expr} {scope : Scope} {posL : Pos} {Ev : Value -> Shared -> Prop} {Qv : Value -> Shared -> Prop} (I : Inv X pins σ H st) (tbb : TabB X.base X.mg c P) (hcde : X.env.code = .ref c)
    (hmm : (P, X.env.qual ++ "<lambda>") ∈ T) (huq : ∀ p ∈ T, p.1 = P -> p.2 = X.env.qual ++ "<lambda>") (hTT : Tabs T H) (hdf : defaultsOf params X.env = ([], [])) (hfr0 : ∀ y ∈ scope.names, y.2 = .free -> ∃ c, X.env.cells.lookup y.1 = some c)
    (hh : ∀ (f c' : Addr) (pm ctv2 : Value) (H1 : Hp) (st' : Shared), Inv X pins σ H1 st' -> ExtM H H1 -> Tabs T H1 ->
      st'.heap.get? f = some (PySem.W.kla_obj "<lambda>" (X.env.qual ++ "<lambda>") params body scope (cloFrom X.env.cells scope.names []) pm c' ctv2) -> H1 f = none -> f ∉ frs X.stack -> H1 c' = some (CodeO c' (X.env.qual ++ "<lambda>")) -> st.heap.objs.size <= f -> Qv (.ref f) st') :
    wpAny (model X.prog X.w) X.A (eval (.Lambda params body scope posL) X.env) Qv Ev st := by
  obtain ⟨ps, htP, htr, htA⟩ := hTT _ hmm
  refine PySem.W.kla_eval hdf ?_
  have bmP : st.heap.BuiltinsAt X.mg P := tbb.bm.keeps I.bk
  have htP2 : st.heap.get? P = some { cls := .none, data := .fields ps } := I.hok P _ htP
  have nofr2 : ∀ f, st.heap.objs.size <= f -> f ∉ frs X.stack := fun f fge z => by
    rcases List.mem_cons.mp (I.stkSub _ z) with e | e
    · have h1 := I.lt
      rw [<- e] at h1
      exact Nat.lt_irrefl _ (Nat.lt_of_lt_of_le h1 fge)
    · exact I.nofs fge e
  cases hcA : codeAmong posL ps.toList with
  | none =>
    refine PySem.W.kla_makeFunction (mg := X.mg) (c := c) (P := P) (ps := ps) (closure_ok hfr0) I.ok.glob (I.mod.glob.keeps I.bk) hcde (tbb.code.keeps I.bk) htP2 htr hcA tbb.gP bmP fun c' ctv2 h' tk hxk hgeS hltS hrc htbl => ?_
    obtain ⟨cB, ocd, vsl, tka, eb, hocd, hdd, hvv⟩ := hrc
    cases eb
    have hszS : st.heap.objs.size <= h'.objs.size := Nat.le_trans hgeS (Nat.le_of_lt hltS)
    have nCc : H c' = none := I.hok.fresh hgeS
    have J1 := inv_table (t' := tk) (more := #[rawInt posL.line, rawInt posL.col, .ref c']) (h' := h'.push (PySem.W.kla_obj "<lambda>" (X.env.qual ++ "<lambda>") params body scope (cloFrom X.env.cells scope.names []) ((X.mg "__name__").getD .none) c' ctv2)) I htP
      (fun b o hbP e => Heap.get?_push_of_some _ (hxk b o hbP e)) (Heap.get?_push_of_some _ htbl) hgeS ⟨ocd, vsl, tka, Heap.get?_push_of_some _ hocd, hdd, hvv⟩
    have hEx : ExtN H (upd (upd H P (.tbl (ps ++ #[rawInt posL.line, rawInt posL.col, .ref c']))) c' (CodeO c' (X.env.qual ++ "<lambda>"))) := fun b o e n => by
      rw [upd_ne (ne_of_none e nCc), upd_ne (fun z => n ps (Option.some.inj (e.symm.trans (by rw [z]; exact htP))))]
      exact e
    have newM : ∀ b o, upd (upd H P (.tbl (ps ++ #[rawInt posL.line, rawInt posL.col, .ref c']))) c' (CodeO c' (X.env.qual ++ "<lambda>")) b = some o -> H b = some o \/ (∃ p1 p2, o = .tbl p1 /\ H b = some (.tbl p2)) \/ (∃ c q, o = CodeO c q /\ H b = none) := fun b o e => by
      by_cases z1 : b = c'
      · subst z1
        rw [upd_same] at e
        exact .inr (.inr ⟨_, _, (Option.some.inj e).symm, nCc⟩)
      · rw [upd_ne z1] at e
        by_cases z2 : b = P
        · subst z2
          rw [upd_same] at e
          exact .inr (.inl ⟨_, _, (Option.some.inj e).symm, htP⟩)
        · rw [upd_ne z2] at e
          exact .inl e
    have eLst : (ps ++ #[rawInt posL.line, rawInt posL.col, .ref c']).toList = ps.toList ++ [rawInt posL.line, rawInt posL.col, .ref c'] := by simp
    refine hh h'.objs.size c' ((X.mg "__name__").getD .none) ctv2 _ _ J1 ⟨hEx, newM⟩ (fun p hp => ?_) (Heap.get?_push_size _ rfl) ?_ (nofr2 _ hszS) upd_same hszS
    · by_cases hbP : p.1 = P
      · rw [huq p hp hbP, hbP]
        refine ⟨_, by rw [upd_ne (ne_of_none htP nCc), upd_same], by rw [eLst]; exact PySem.TriplesOk_snoc _ _ _ _ htr, fun p' cv hcvz => ?_⟩
        rw [eLst] at hcvz
        rcases among_app _ htr hcvz with z | z
        · obtain ⟨cC, ea, eb⟩ := htA p' cv z
          exact ⟨cC, ea, hEx _ _ eb codeO_ne⟩
        · exact ⟨c', z, upd_same⟩
      · obtain ⟨ps', aa, ab, ac⟩ := hTT p hp
        refine ⟨ps', by rw [upd_ne (ne_of_none aa nCc), upd_ne hbP]; exact aa, ab, fun p' cv hcvz => ?_⟩
        obtain ⟨cC, ea, eb⟩ := ac p' cv hcvz
        exact ⟨cC, ea, hEx _ _ eb codeO_ne⟩
    · have na1 : h'.objs.size ≠ c' := Nat.ne_of_gt hltS
      have na2 : h'.objs.size ≠ P := Nat.ne_of_gt (Nat.lt_of_lt_of_le (Heap.lt_size htP2) hszS)
      rw [upd_ne na1, upd_ne na2]
      exact I.hok.fresh hszS
  | some cv =>
    obtain ⟨c', e, hcoA⟩ := htA posL cv hcA
    subst e
    refine PySem.W.kla_makeFunctionHit (mg := X.mg) (c := c) (P := P) (ps := ps) (closure_ok hfr0) I.ok.glob (I.mod.glob.keeps I.bk) hcde (tbb.code.keeps I.bk) htP2 htr hcA bmP fun ctv2 h' tk hxk hszS => ?_
    have J1 : Inv X pins σ H { st with heap := h'.push (PySem.W.kla_obj "<lambda>" (X.env.qual ++ "<lambda>") params body scope (cloFrom X.env.cells scope.names []) ((X.mg "__name__").getD .none) c' ctv2), toks := tk } := I.kept fun b o e => Heap.get?_push_of_some _ (hxk b o e)
    exact hh h'.objs.size c' ((X.mg "__name__").getD .none) ctv2 H _ J1 (ExtM.refl H) hTT (Heap.get?_push_size _ rfl) (I.hok.fresh hszS) (nofr2 _ hszS) hcoA hszS
end
end
end EK
namespace EK
open PySem PySem.Spec PyProof.Rows L2
section
def caughtBody (a c n x : Str) (j : Nat) (q1 q2 q3 p1 p2 p3 p4 p5 p6 p7 p8 p9 r1 r2 : Pos) : List Stmt :=
  [.Assign [.Name c q1] (.Constant .none j q2) q3, .Try [.Expr (.Call (.Name a p1) [] [] p2) p3] [.ExceptHandler (some (.Name x p4)) (some n) [.Assign [.Name c p5] (.Name n p6) p7] p8] [] [] p9, .Return (some (.Name c r1)) r2]
def TCaught (K : PySem.W.Frag) (CS : Addr) : (XK -> Hp -> VK -> Prop) -> Hp -> VK -> Prop := fun tl H Q =>
  tl (fun cls d H' => PySem.W.exmOne K cls (.ref CS) = some true /\ ∀ e, H' e = none -> Q (.ref e) (upd H' e (ExK e cls d))) H fun _ H' => ∃ v, (some (some V.non) : Option (Option V)) = some (some v) /\ Q v H'
section
variable {X : Cx}
theorem caught_gives {a c n x y q : Str} {sg : Scope} {g CS : Addr} {cdg : Value} {j : Nat} {q1 q2 q3 p1 p2 p3 p4 p5 p6 p7 p8 p9 r1 r2 : Pos} (hgx : sg.names.lookup x = some .globalImplicit) (hmx : X.mg x = some (.ref CS)) (hdx : (x == ("__debug__" : Str)) = false)
    (nd : [a, c, n].Nodup) (hc : sg.names.lookup c = some .local) (hn : sg.names.lookup n = some .local) (hdc : (c == ("__debug__" : Str)) = false) (hdn : (n == ("__debug__" : Str)) = false) (hcc : (c == ("__classdict__" : Str)) = false) (hcn : (n == ("__classdict__" : Str)) = false) :
    LamX.GivesTo X [a, c, n] y sg g cdg (caughtBody a c n x j q1 q2 q3 p1 p2 p3 p4 p5 p6 p7 p8 p9 r1 r2) a q (TCaught X.K CS) := by
  intro f c' s H Q tl act hco h
  have hgl : Gl (cxOf C8.CX0 X.prog X.w X.K X.mg X.base [a, c, n] y sg g cdg X.A X.stack s H C8.E0).nox x := hgx
  refine ⟨_, pss_cons (ps_set (i := 1) nd rfl (Or.inl hc) pe_non) (pss_cons (ps_try_kept (X := (cxOf C8.CX0 X.prog X.w X.K X.mg X.base [a, c, n] y sg g cdg X.A X.stack s H C8.E0).nox) (i := 2) (c := .ref CS)
      (tb := fun W D sg H => ∃ Ech : XK, (∀ cls d sg' H', Ech cls d H' -> W cls d sg' H') /\ sg[0]? = some (some (.ref f)) /\ H c' = some (LamX.CodeO c' q) /\ tl Ech H fun _ H' => D.nx sg H')
      rfl rfl nd rfl hn ⟨hgl, hdx, .inl hmx⟩ LamX.takes0 (fun W pn xe tk _ => ?_) (fun e cls d pn => pss_one (ps_set (i := 1) nd rfl (Or.inl hc) (pe_var (i := 2) rfl (Or.inl hn) hdn hcn)))) (pss_one (ps_ret (pe_var (i := 1) rfl (Or.inl hc) hdc hcc)))), ?_⟩
  · refine ⟨fun pins s' sg' H' D I h' => ?_⟩
    obtain ⟨Ech, hW, h1, h2, h3⟩ := h'
    have hp := act W pn xe Ech p1 p2 tk hW
    have hq := pss_one (ps_expr (pos := p3) hp)
    exact hq.run pins s' sg' H' D I ⟨h1, h2, h3⟩
  · refine ⟨fun cls d H' => PySem.W.exmOne X.K cls (.ref CS) = some true /\ ∀ e, H' e = none -> Q (.ref e) (upd H' e (ExK e cls d)), fun cls d sg' H' ⟨e1, e2⟩ hlen => ⟨true, e1, fun _ e he => ?_, fun z => by cases z⟩, rfl, hco, ?_⟩
    · match sg', hlen with
      | [u0, u1, u2], _ => exact ⟨.ref e, rfl, .ref e, rfl, e2 e he⟩
    · exact h
end
def gCaught (kx : List Str) (f : SE) : SE := fun G s => match f G s with
  | none => none
  | some (.ok _, s') => some (.ok .non, s')
  | some (.err x, s') => if kx.contains x.cls then some (.ok (.exc x.cls x.ns x.xs), s') else none
theorem ExK_nt {a : Addr} {cls : Value} {d : Option Addr} : NotTbl (ExK a cls d) := fun _ z => by unfold ExK at z; cases z
section
variable {X : Cx} {dl : Dr X.w X.K X.mg} {W : WX}
theorem wd_grown {F H H1 : Hp} {s : DS} (w : Wd dl F H s) (em : ExtM H H1) (tb : LamX.Tabs dl.tabs H1) : ∃ F1, Step dl F H F1 H1 /\ Wd dl F1 H1 s := by
  classical
  have ex := em.ex
  have kept : ∀ b o, ¬ dl.has b -> H b = some o -> H1 b = some o := fun b o nh e => ex b o e fun ps z => by
    subst z
    obtain ⟨q, hq⟩ := w.tb.nt b ps e
    exact nh (.inr (.inr (.inr (.inl ⟨q, hq⟩))))
  have keptF : ∀ b o, F b = some o -> H1 b = some o := fun b o e => kept b o (fun z => by rw [w.off b z] at e; cases e) (w.sub b o e)
  have keptC : ∀ b c q, H b = some (LamX.CodeO c q) -> H1 b = some (LamX.CodeO c q) := fun b c q e => ex b _ e fun ps z => by unfold LamX.CodeO at z; cases z
  obtain ⟨d1, d2, d3, d4⟩ := w.dr
  have k1 := ex _ _ d1 fun ps z => by cases z
  have k2 := ex _ _ d2 fun ps z => by cases z
  have k3 := ex _ _ d3 fun ps z => by cases z
  let isC : Addr -> Prop := fun b => ∃ c q, H1 b = some (LamX.CodeO c q)
  let F1 : Hp := fun b => if isC b then H1 b else F b
  have f1 : ∀ b, ¬ isC b -> F1 b = F b := fun b h => if_neg h
  have f2 : ∀ b, isC b -> F1 b = H1 b := fun b h => if_pos h
  have hasN : ∀ b, dl.has b -> ¬ isC b := fun b hb ⟨c, q, e⟩ => by
    have ne : ∀ o, H1 b = some o -> (∀ c q, o ≠ LamX.CodeO c q) -> False := fun o e2 hn => by
      rw [e] at e2
      exact hn c q (Option.some.inj e2).symm
    rcases hb with z | z | z | ⟨q', z⟩ | ⟨ac, q', z, hq⟩
    · exact ne _ (by rw [z]; exact k1) fun _ _ y => by unfold LamX.CodeO at y; cases y
    · exact ne _ (by rw [z]; exact k2) fun _ _ y => by unfold LamX.CodeO at y; cases y
    · exact ne _ (by rw [z]; exact k3) fun _ _ y => by unfold LamX.CodeO at y; cases y
    · obtain ⟨ps, h1, _⟩ := tb _ z
      exact ne _ h1 fun _ _ y => by unfold LamX.CodeO at y; cases y
    · obtain ⟨C, dx, fs, z⟩ := w.ob.there ac z hq
      exact ne _ (ex _ _ z fun ps y => by cases y) fun _ _ y => by unfold LamX.CodeO at y; cases y
  have same : Same F F1 := fun b o e => by
    by_cases h : isC b
    · rw [f2 b h]; exact keptF b o e
    · rw [f1 b h]; exact e
  refine ⟨F1, ⟨same, kept, fun b o e => ?_, fun b e => ?_⟩, ⟨fun b o e => ?_, fun b hb => ?_, ⟨k1, k2, k3, d4⟩, ⟨fun p hp => ?_, fun b ps e => ?_, fun b c q e => ?_⟩, w.ob.mono same fun ac b q m hq => ?_⟩⟩
  · by_cases h : isC b
    · rw [f2 b h] at e
      obtain ⟨c, q, hc⟩ := h
      cases z : H b with
      | none => exact .inr rfl
      | some u =>
        refine .inl ?_
        by_cases hh : dl.has b
        · exact absurd ⟨c, q, hc⟩ (hasN b hh)
        · have := kept b u hh z
          rw [hc] at this
          rw [<- Option.some.inj this] at z
          have y := w.tb.cd b c q z
          rw [hc] at e
          rw [<- Option.some.inj e]
          exact y
    · rw [f1 b h] at e; exact .inl e
  · cases z : H b with
    | none => rfl
    | some u =>
      by_cases hh : dl.has b
      · rcases hh with y | y | y | ⟨q', y⟩ | ⟨ac, q', y, hq⟩
        · rw [y, k1] at e; cases e
        · rw [y, k2] at e; cases e
        · rw [y, k3] at e; cases e
        · obtain ⟨ps, h1, _⟩ := tb _ y
          rw [e] at h1; cases h1
        · obtain ⟨C, dx, fs, y⟩ := w.ob.there ac y hq
          rw [ex _ _ y fun ps z => by cases z] at e; cases e
      · rw [kept b u hh z] at e; cases e
  · by_cases h : isC b
    · rw [f2 b h] at e; exact e
    · rw [f1 b h] at e; exact keptF b o e
  · rw [f1 b (hasN b hb)]; exact w.off b hb
  · obtain ⟨ps, h1, h2, h3⟩ := tb p hp
    refine ⟨ps, h1, h2, fun pos cv hc => ?_⟩
    obtain ⟨c, e1, e2⟩ := h3 pos cv hc
    exact ⟨c, e1, by rw [f2 c ⟨_, _, e2⟩]; exact e2⟩
  · rcases em.nw b _ e with z | ⟨p1, p2, _, z⟩ | ⟨c, q, z, _⟩
    · exact w.tb.nt b ps z
    · exact w.tb.nt b p2 z
    · unfold LamX.CodeO at z; cases z
  · rw [f2 b ⟨c, q, e⟩]; exact e
  · obtain ⟨C, dx, fs, z⟩ := w.ob.there ac m hq
    rw [z]; exact ex _ _ z fun ps y => by cases y
end
end
section
structure XclF (K : PySem.W.Frag) (C : Addr) : Prop where
  cl : (PySem.W.clsIn K C).isSome = true
  ga : PySem.W.findIn K (.ref C) "__getattribute__" = some (some (.builtin "BaseException.__getattribute__"))
  gg : PySem.W.findIn K (.ref C) "__getattr__" = some none
  su : PySem.W.subIn K (.ref C) (.type "BaseException") = some true
  hd : PySem.W.hasDictIn K C = true
  ha : PySem.W.findIn K (.ref C) "__class__" = some (some (.builtin "object.__class__"))
  hn : PySem.W.specialIn K (.builtin "object.__class__") "__get__" = some (some (.builtin "getset_descriptor.__get__"))
  tk : PySem.W.takesIn K (.builtin "object.__class__") = some true
  mo : PySem.W.mroIn K C (.type "object") = some true
section
variable {X : Cx} {dl : Dr X.w X.K X.mg} {W : WX} {e c2 : Expr} {fe : SE} {p pos : Pos}
theorem exc_inst {pins : List (Addr × Obj)} {sg : L2.St} {F H : Hp} {s : Shared} {ds : DS} {c : Str} {ns : List Str} {xs : List D} {v : V} (I : Inv X pins sg H s) (w : Wd dl F H ds) (r : Rep X.K X.mg dl F (.exc c ns xs) v) :
    ∃ (a C : Addr) (vs : List V) (oe : Obj) (od : Option Obj), v = .ref a /\ X.mg c = some (.ref C) /\ ns.length = vs.length /\ RepL X.K X.mg dl F xs vs /\ PySem.W.InstAt s.heap a oe C od /\
      (ns ≠ [] -> ∃ (d : Addr) (o : Obj) (mA : Str -> Option Value), od = some o /\ H d = some (.xd (ns.zip vs)) /\ s.heap.get? d = some o /\ (∀ f, RelO ((ns.zip vs).lookup f) (mA f)) /\ (∀ f, PySem.W.lookIn f o = some (mA f))) := by
  obtain ⟨a, C, vs, rfl, h2, h3, h4, h5⟩ := r
  rcases h4 with ⟨n1, n2⟩ | ⟨d, n1, n2, n3⟩
  · obtain ⟨oe, vv, g1, g2, g3⟩ := exK_at I.hok (w.sub _ _ n2)
    exact ⟨a, C, vs, oe, none, rfl, h2, h3, h5, ⟨g1, g2.1, by unfold PySem.W.notCls; rw [g3] <;> rfl, by rw [g2.2]; trivial⟩, fun z => absurd n1 z⟩
  · obtain ⟨oe, vv, g1, g2, g3⟩ := exK_at I.hok (w.sub _ _ n2)
    have hx : ObjOk X.prog X.w H s.heap d (.xd (ns.zip vs)) := I.hok d _ (w.sub _ _ n3)
    obtain ⟨mA, hns, hr⟩ := hx
    obtain ⟨od, ho, hl⟩ := lookIn_ns hns
    exact ⟨a, C, vs, oe, some od, rfl, h2, h3, h5, ⟨g1, g2.1, by unfold PySem.W.notCls; rw [g3] <;> rfl, by rw [g2.2]; exact ho⟩, fun _ => ⟨d, od, mA, rfl, w.sub _ _ n3, ho, hr, hl⟩⟩
structure IsiX (K : PySem.W.Frag) (mg : Str -> Option Value) (c : Str) (T : Value) (b : Bool) : Prop where
  ex : ∃ C, mg c = some (.ref C) /\ XclF K C /\ PySem.W.kitOne K (.ref C) T = some b
def isiXD (cx cs : List (Str × Bool)) (ans : String -> Option Bool) : D -> Option D
  | .exc c _ _ => (cx.lookup c).map .bl
  | d => isiD cs ans d
def rIsX (X : Cx) (dl : Dr X.w X.K X.mg) : List V -> Hp -> VK -> Prop := fun xs H Q => ∃ (F : Hp) (s : DS) (c : Str) (ns : List Str) (ds : List D) (v cv : V) (T : Value) (b : Bool) (C : Addr), xs = [v, cv] /\ ClsV cv T /\ Wd dl F H s /\ Rep X.K X.mg dl F (.exc c ns ds) v /\ X.mg c = some (.ref C) /\ XclF X.K C /\ PySem.W.kitOne X.K (.ref C) T = some b /\ Q (.bl b) H
theorem call_isX : CallR X (.builtin "isinstance") (rIsX X dl) := by
  intro pins s sg H xs us Q I r h
  obtain ⟨F, ds, c, ns, dd, v, cv, T, b, C, rfl, k, w, rp, hm, xc, e, q⟩ := h
  obtain ⟨u1, u2, rfl, r1, r2⟩ := vals2 r
  have e2 := k.eq r2
  subst e2
  obtain ⟨a, C', vs, oe, od, rfl, m2, _, _, J, _⟩ := exc_inst I w rp
  rw [hm] at m2
  cases m2
  cases (show u1 = Value.ref a from r1)
  exact PySem.W.kia_one (PySem.W.kitx_exc xc.cl xc.ga xc.gg xc.su xc.ha xc.hn xc.tk xc.mo) I.kIn J e (fun z => nomatch z) fun tk => ⟨.bl b, H, I.tok tk, rfl, q⟩
theorem de_isiX {T : Value} {cv : V} {cx cs : List (Str × Bool)} {ans : String -> Option Bool} (hg : Gl X "isinstance") (hm : X.mg "isinstance" = none) (hT : PE X c2 (tC cv)) (hcv : ClsV cv T) (hcx : ∀ c b, cx.lookup c = some b -> IsiX X.K X.mg c T b) (hcs : ∀ c b, cs.lookup c = some b -> IsiF X.K X.mg c T b) (hans : ∀ t b, ans t = some b -> PySem.W.kitOne X.K (.type t) T = some b) (he : DE X dl W e fe)
    (hs1 : starEach [e, c2] X.env = (false, eval e X.env) :: starEach [c2] X.env := by rfl) (hs2 : starEach [c2] X.env = (false, eval c2 X.env) :: starEach [] X.env := by rfl) (hpl : (backTo pos (starEach [c2] X.env)).any (·.1) = false := by rfl) :
    DE X dl W (.Call (.Name "isinstance" p) [e, c2] [] pos) (g1 (isiXD cx cs ans) fe) := by
  refine PE.of (pe_callB (callR_or call_isi (call_isX (dl := dl))) hg hm (by decide +kernel) (pa_cons he (pa_cons hT pa_nil hs2) hs1) (by decide) (by decide) hs1 hpl) fun sg H Q q => ?_
  obtain ⟨F, q⟩ := q
  refine ⟨F, q.bnd.imp fun d F1 H1 ⟨st1, q1⟩ v rv => ?_⟩
  obtain ⟨y, s, e1, w, q2⟩ := q1.op
  cases hd : tyN d with
  | some t =>
    have e2 : ((ans t).map D.bl) = some y := by
      cases d <;> first | (simpa [isiXD, isiD, hd] using e1) | (simp [tyN] at hd)
    cases ha : ans t with
    | none => rw [ha] at e2; cases e2
    | some b =>
      rw [ha] at e2
      cases e2
      exact .inl ⟨v, cv, .type t, T, b, rfl, hcv, tyx_of w rv hd, hans t b ha, q2 F1 H1 Step.refl w _ rfl⟩
  | none =>
    cases d with
    | obj c ns xs =>
      have e2 : ((cs.lookup c).map D.bl) = some y := e1
      cases hc : cs.lookup c with
      | none => rw [hc] at e2; cases e2
      | some b =>
        rw [hc] at e2
        cases e2
        obtain ⟨C, t1, t2⟩ := tyx_obj w (hcs c b hc) (by simp [isC]) rv
        exact .inl ⟨v, cv, .ref C, T, b, rfl, hcv, t1, t2, q2 F1 H1 Step.refl w _ rfl⟩
    | exc c ns xs =>
      have e2 : ((cx.lookup c).map D.bl) = some y := e1
      cases hc : cx.lookup c with
      | none => rw [hc] at e2; cases e2
      | some b =>
        rw [hc] at e2
        cases e2
        obtain ⟨C, m1, m2, m3⟩ := (hcx c b hc).ex
        exact .inr ⟨F1, s, c, ns, xs, v, cv, T, b, C, rfl, hcv, w, rv, m1, m2, m3, q2 F1 H1 Step.refl w _ rfl⟩
    | dcT _ _ => cases e1
    | dcN _ _ => cases e1
    | exm _ _ => cases e1
    | ptp _ => cases e1
    | mob _ _ _ => cases e1
    | _ => cases hd
structure FldX (K : PySem.W.Frag) (mg : Str -> Option Value) (c n : Str) : Prop where
  ex : ∃ C, mg c = some (.ref C) /\ XclF K C /\ PySem.W.findIn K (.ref C) n = some none
def fldXD (cl : List Str) (n : Str) : D -> Option D
  | .exc c ns xs => if cl.contains c then (ns.zip xs).lookup n else none
  | _ => none
theorem zipX_lookup {F : Hp} {n : Str} : ∀ {ns : List Str} {xs : List D} {vs : List V} {d : D}, RepL X.K X.mg dl F xs vs -> (ns.zip xs).lookup n = some d -> ∃ v, (ns.zip vs).lookup n = some v /\ Rep X.K X.mg dl F d v
  | [], _, _, _, _, e => by simp at e
  | m :: ns, [], _, _, _, e => by simp at e
  | m :: ns, x :: xs, vs, d, r, e => by
    obtain ⟨v, vs', rfl, r1, r2⟩ := r
    rw [List.zip_cons_cons, List.lookup_cons] at e ⊢
    cases h : n == m with
    | true =>
      rw [h] at e
      cases e
      exact ⟨v, rfl, r1⟩
    | false =>
      rw [h] at e
      exact zipX_lookup r2 e
theorem de_fldX {cl : List Str} {n : Str} (hT : ∀ c ∈ cl, FldX X.K X.mg c n) (he : DE X dl W e fe) (hb : attributeBase e n X.env (eval e X.env) = eval e X.env := by rfl) : DE X dl W (.Attribute e n pos) (g1 (fldXD cl n) fe) := by
  refine ⟨fun pins s sg H Q I q => ?_⟩
  obtain ⟨F, q⟩ := q
  have q' : tD X dl W fe sg H (fun v H1 => ∃ (F1 : Hp) (s1 : DS) (d y : D), Wd dl F1 H1 s1 /\ Rep X.K X.mg dl F1 d v /\ fldXD cl n d = some y /\ ∀ u, Rep X.K X.mg dl F1 y u -> Q u H1) :=
    ⟨F, q.bnd.imp fun d F1 H1 ⟨st1, q1⟩ v rv => by
      obtain ⟨y, s1, e1, w, q2⟩ := q1.op
      exact ⟨F1, s1, d, y, w, rv, e1, fun u ru => q2 F1 H1 Step.refl w u ru⟩⟩
  refine attr_of hb (thn (he.run pins s sg H _ I q') fun u s1 hh => ?_)
  obtain ⟨x, H1, I1, rx, F1, st, d, y, w, rv, e1, q2⟩ := hh
  match d, e1, rv with
  | .exc c ns xs, e1, rv =>
    have e1 : (if cl.contains c then (ns.zip xs).lookup n else none) = some y := e1
    cases hc : cl.contains c with
    | false => rw [hc] at e1; cases e1
    | true =>
      rw [hc] at e1
      have e1 : (ns.zip xs).lookup n = some y := e1
      obtain ⟨a, C, vs, oe, od, rfl, m2, _, rl, J, hns⟩ := exc_inst I1 w rv
      obtain ⟨C', m1, xc, no⟩ := (hT c (by simpa using hc)).ex
      rw [m1] at m2
      cases m2
      cases (show u = Value.ref a from rx)
      obtain ⟨z, l1, l2⟩ := zipX_lookup rl e1
      obtain ⟨da, o, mA, rfl, hd, ho, hr, hl⟩ := hns (fun z => by subst z; simp at e1)
      obtain ⟨u2, hu, ru⟩ := RelO.some_of (v := z) (o := mA n) (by rw [<- l1]; exact hr n)
      exact HandSPX.exc_get I1.kIn J xc.ga xc.gg xc.su (PySem.W.findObj_own xc.hd no rfl (by rw [hl n, hu])) (handed_of ru) ⟨z, H1, I1.tok _, ru, q2 z l2⟩
  | .non, e1, _ => cases e1
  | .bl _, e1, _ => cases e1
  | .int _, e1, _ => cases e1
  | .str _, e1, _ => cases e1
  | .tup _, e1, _ => cases e1
  | .lst _, e1, _ => cases e1
  | .obj _ _ _, e1, _ => cases e1
  | .drw, e1, _ => cases e1
  | .scr _, e1, _ => cases e1
  | .dct _ _, e1, _ => cases e1
  | .dcT _ _, e1, _ => cases e1
  | .dcN _ _, e1, _ => cases e1
  | .exm _ _, e1, _ => cases e1
  | .ptp _, e1, _ => cases e1
  | .mob _ _ _, e1, _ => cases e1
end
end
section
theorem xcl_ok {K : PySem.W.Frag} {x : Str} (h : (Fx.xcl x).ok K = true) : XclF K (He.ga K x) := by
  obtain ⟨h1, h⟩ := He.ba h
  obtain ⟨h2, h⟩ := He.ba h
  obtain ⟨h3, h⟩ := He.ba h
  obtain ⟨h4, h⟩ := He.ba h
  obtain ⟨h5, h6⟩ := He.ba h
  obtain ⟨c1, c2, c3, c4⟩ := clsB_ok h1
  exact ⟨h2, He.eqO_ok h3, He.eqO_ok h4, of_decide_eq_true h5, h6, c1, c2, c3, c4⟩
theorem xis_ok {K : PySem.W.Frag} {mg : Str -> Option Value} {x : Str} {t : Ty} {b : Bool} (gl : mg x = some (.ref (He.ga K x))) (c : (Fx.xcl x).ok K = true) (h : (Fx.xis x t b).ok K = true) : IsiX K mg x (t.val K) b :=
  ⟨_, gl, xcl_ok c, of_decide_eq_true h⟩
theorem fldX_ok {K : PySem.W.Frag} {mg : Str -> Option Value} {x n : Str} (gl : mg x = some (.ref (He.ga K x))) (c : (Fx.xcl x).ok K = true) (h : (He.Fa.noat x n).ok K = true) : FldX K mg x n := ⟨_, gl, xcl_ok c, He.eqO_ok h⟩
theorem exc0_ok {K : PySem.W.Frag} {mg : Str -> Option Value} {x : Str} (gl : mg x = some (.ref (He.ga K x))) (h : (He.Fa.exc x).ok K = true) : Exc0 K mg x := by
  obtain ⟨h1, h⟩ := He.ba h
  obtain ⟨h2, h⟩ := He.ba h
  obtain ⟨h3, h4⟩ := He.ba h
  exact ⟨_, gl, h1, h2, of_decide_eq_true h3, of_decide_eq_true h4⟩
theorem oexB_ok {K : PySem.W.Frag} {C : Addr} (h : oexB K C = true) : OexC K C := by
  obtain ⟨h1, h⟩ := He.ba h
  obtain ⟨h2, h⟩ := He.ba h
  obtain ⟨h3, h⟩ := He.ba h
  obtain ⟨h4, h5⟩ := He.ba h
  refine ⟨?_, He.eqO_ok h2, of_decide_eq_true h3, of_decide_eq_true h4, h5⟩
  split at h1
  · rename_i t dd cd sl ho
    obtain ⟨u1, u2⟩ := He.ba h1
    have e1 : t = "type" := of_decide_eq_true u1
    subst e1
    split at u2
    · rename_i C' bm k0 k1 k2 k3 n k5 hm hs
      obtain ⟨v1, v2⟩ := He.ba u2
      obtain ⟨v3, v4⟩ := He.ba v2
      obtain ⟨v5, v6⟩ := He.ba v4
      obtain ⟨v7, v8⟩ := He.ba v6
      have e2 : C' = C := of_decide_eq_true v1
      have e3 : n = "ValueError.__new__" := of_decide_eq_true v3
      subst e2 e3
      obtain ⟨nm, bs, mro, ns, qn, hd, sn, sub, ab, col, del⟩ := cd
      dsimp only at hm v5 v7
      subst hm
      have e4 : del = false := by simpa using v5
      subst e4 v7
      have es : sl = #[k0, k1, k2, k3, some (.builtin "ValueError.__new__"), k5] := by
        obtain ⟨l⟩ := sl
        exact congrArg Array.mk hs
      subst es
      exact ⟨nm, qn, ns, bs, bm, sn, sub, ab, col, dd, k0, k1, k2, k3, k5, ho, v8⟩
    · cases u2
  · cases h1
theorem fileB_ok {vs : Array Value} {file : Str} (h : fileB vs file = true) : ∃ tf, vs[2]? = some (.str file tf) := by
  unfold fileB at h
  split at h
  · rename_i f tf hf
    have ef : f = file := of_decide_eq_true h
    exact ⟨tf, by rw [hf, ef]⟩
  · cases h
structure ExcT (prog : Program) (d : ExcD) : Prop where
  top : (prog.main.scope.names.lookup ("super" : Str)).isSome = false
  file : ((prog.main.file : Str) == d.file) = true
  body : ∃ (msg : Str) (j : Nat) (p0 p1 p2 p3 p4 p5 p6 p7 p8 p9 : Pos), d.body = supBody msg d.fld j p0 p1 p2 p3 p4 p5 p6 p7 p8 p9 /\ ∀ (L f cda cc : Addr), supRuns (PySem.W.ksEnv d.qual d.scope L f (.ref cda) cc) msg d.fld j p0 p1 p2 p3 p4 p5 p6 p7 p8 p9
  bind : ∀ (body : List Stmt) (kV doc pm ct cdv : Value) (an : Option Addr) (cc : Addr) (s : Shared) (a b : Value), BindsTo s (PySem.W.ksFn "__init__" d.qual d.params body d.scope .none kV doc pm an cdv ct cc) ⟨[a, b], []⟩ [("self", a), (d.fld, b)]
  arg : ∃ ar : Arg, (d.params.posonlyargs ++ d.params.args).head? = some ar /\ ar.arg = "self"
  sc : (∀ x ∈ d.scope.names, x.2 ≠ .cell) /\ d.scope.isCoroutine = false /\ d.scope.isGenerator = false /\ d.scope.kind = .function /\
    d.scope.names.lookup ("super" : Str) = some .globalImplicit /\ d.scope.names.lookup ("__class__" : Str) = some .free /\ d.scope.names.lookup ("self" : Str) = some .local /\ d.scope.names.lookup d.fld = some .local /\ (d.fld == ("__debug__" : Str)) = false /\ (("self" : Str) == d.fld) = false
theorem ExcD.supC {prog : Program} {K : PySem.W.Frag} {d : ExcD} (t : ExcT prog d) (h : d.ok K = true) (e : fnV K (initA K d.cls) = d.val) : SupC prog K (He.ga K d.cls) (initA K d.cls) d.fld := by
  obtain ⟨h1, h⟩ := He.ba h
  obtain ⟨h2, h⟩ := He.ba h
  obtain ⟨h3, h⟩ := He.ba h
  obtain ⟨h4, h⟩ := He.ba h
  obtain ⟨h5, h⟩ := He.ba h
  obtain ⟨h6, h⟩ := He.ba h
  obtain ⟨h7, h⟩ := He.ba h
  obtain ⟨h8, h⟩ := He.ba h
  obtain ⟨h9, h⟩ := He.ba h
  refine ⟨oexB_ok h1, He.eqO_ok h2, He.eqO_ok h3, of_decide_eq_true h4, of_decide_eq_true h5, of_decide_eq_true h6, He.eqO_ok h7, He.eqO_ok h8, He.eqO_ok h9, t.top, ?_⟩
  unfold fnV at e
  cases hl : K.lookup (initA K d.cls) with
  | none => rw [hl] at h; cases h
  | some ob =>
    rcases ob with ⟨u1, u2, dat, u3⟩
    rw [hl] at h e
    cases dat
    case func fd =>
      rcases fd with ⟨m1, m2, m3, m4, m5, m6, m7, m8, m9, m10, m11, m12, m13, m14, m15⟩
      unfold ExcD.val at e
      simp only [Option.some.injEq, Prod.mk.injEq] at e
      rcases e with ⟨g1, g2, g3, g4, g5, g6, g7, g8⟩
      subst g1 g2 g3 g4 g5 g6 g8
      match m13, m7, g7, h with
      | .ref cda, [(nm, cc)], g7, h =>
        have en : nm = "__class__" := by simpa using g7
        subst en
        obtain ⟨y1, y2⟩ := He.ba h
        obtain ⟨y5, y0⟩ := He.ba y1
        have e8 : m8 = .none := by
          cases m8 <;> first | rfl | cases y0
        subst e8
        obtain ⟨y3, y4⟩ := He.ba y2
        obtain ⟨msg, j, p0, p1, p2, p3, p4, p5, p6, p7, p8, p9, eb, er⟩ := t.body
        rw [eb]
        refine ⟨u1, u2, u3, d.qual, d.params, d.scope, .none, m9, m10, m11, m14, m12, cda, cc, msg, j, p0, p1, p2, p3, p4, p5, p6, p7, p8, p9, rfl, y5, ?_, ?_, fun s a b => t.bind _ m9 m10 m11 m14 (.ref cda) m12 cc s a b, t.arg, t.sc.1, t.sc.2.1, t.sc.2.2.1, t.sc.2.2.2.1, t.sc.2.2.2.2.1, t.sc.2.2.2.2.2.1, t.sc.2.2.2.2.2.2.1, t.sc.2.2.2.2.2.2.2.1, t.sc.2.2.2.2.2.2.2.2.1, t.sc.2.2.2.2.2.2.2.2.2, fun L => er L _ cda cc⟩
        · split at y3
          · rename_i a1 a2 vs a3 hk
            obtain ⟨tf, hf⟩ := fileB_ok y3
            exact ⟨a1, a2, vs, a3, d.file, tf, hk, hf, t.file⟩
          · cases y3
        · split at y4
          · rename_i a1 a2 Q a3 hk
            have eq : Q = He.ga K d.cls := of_decide_eq_true y4
            rw [eq] at hk
            exact ⟨a1, a2, a3, hk⟩
          · cases y4
    all_goals cases h
theorem SaysW.exc1 {prog : Program} {fa : List He.Fa} {fn : List He.DefD} {fx : List Fx} {gt : List GetD} {tf : List He.Defn} {xd : List ExcD} {h : Heap} {K : PySem.W.Frag} {mg : Str -> Option Value} (c : SaysW fa fn fx gt tf xd h K) (i : Nat) {d : ExcD} (gl : mg d.cls = some (.ref (He.ga K d.cls))) (t : ExcT prog d) (hi : xd[i]? = some d := by rfl) : Exc1 prog K mg d.cls d.fld := by
  have e2 : (xd.map fun d => fnV K (initA K d.cls))[i]? = (xd.map ExcD.val)[i]? := by rw [c.v]
  rw [List.getElem?_map, List.getElem?_map, hi] at e2
  exact ⟨_, _, gl, ExcD.supC t (List.all_eq_true.mp c.x d (List.mem_of_getElem? hi)) (Option.some.inj e2)⟩
end
section
def pickL {α : Type} (is : List Nat) (zs : List α) : List α := is.filterMap fun i => zs[i]?
theorem pickL_vals : ∀ (is : List Nat) {zs : List V} {ws : List Value}, Vals zs ws -> Vals (pickL is zs) (pickL is ws)
  | [], _, _, _ => .nil
  | i :: is, zs, ws, h => by
    have ih := pickL_vals is h
    unfold pickL at ih ⊢
    rw [List.filterMap_cons, List.filterMap_cons]
    cases e : zs[i]? with
    | none =>
      have : ws[i]? = none := by
        rw [List.getElem?_eq_none_iff] at e ⊢
        rw [<- h.length]; exact e
      rw [this]
      exact ih
    | some z =>
      obtain ⟨u, hu, ru⟩ := paired_get h e
      rw [hu]
      exact .cons ru ih
theorem pickL_rep {K : PySem.W.Frag} {mg : Str -> Option Value} {wd : World} {dl : Dr wd K mg} {F : Hp} : ∀ (is : List Nat) {ds : List D} {vs : List V}, RepL K mg dl F ds vs -> RepL K mg dl F (pickL is ds) (pickL is vs)
  | [], _, _, _ => rfl
  | i :: is, ds, vs, h => by
    have ih := pickL_rep is h
    unfold pickL at ih ⊢
    rw [List.filterMap_cons, List.filterMap_cons]
    cases e : ds[i]? with
    | none =>
      have : vs[i]? = none := by
        rw [List.getElem?_eq_none_iff] at e ⊢
        rw [<- h.length]; exact e
      rw [this]
      exact ih
    | some z =>
      obtain ⟨u, hu, ru⟩ := h.get e
      rw [hu]
      exact ⟨u, _, rfl, ru, ih⟩
structure DFnK (P : Program) (w : World) (K : PySem.W.Frag) (mg : Str -> Option Value) (base : Heap) (x : Str) (k n : Nat) (ks : List Str) (is : List Nat) (N : Nat) (m : List D -> M D) : Prop where
  ex : ∃ (f : Addr) (fd : FuncData) (ps : List Str), mg x = some (.ref f) /\ PySem.W.keepIn K (.ref f) = true /\ ps.length = N /\ KBn K fd ps n ks (fun us ws => us ++ pickL is ws) (fun vs zs => vs ++ pickL is zs) /\ FnOk P w K mg base (L2.CX P w) k f fd ps (spD K mg w N m)
theorem kbn_of {K : PySem.W.Frag} {x qual : Str} {params : Arguments} {body : List Stmt} {scope : Scope} {f : Addr} {fd : FuncData} {ps : List Str} {n : Nat} {ks : List Str} {is : List Nat} (F : FunD K x qual params body scope [] [] f fd)
    (h : ∀ (kV doc pm : Value) (an : Option Addr) (cdv ct : Value) (us ws : List Value), us.length = n -> ws.length = ks.length -> bindArgs (PySem.W.fnOf x qual params body scope .none kV doc pm an cdv ct) ⟨us, ks.zip ws⟩ = pure (ps.zip (us ++ pickL is ws))) : KBn K fd ps n ks (fun us ws => us ++ pickL is ws) (fun vs zs => vs ++ pickL is zs) := by
  obtain ⟨oc, od, dV, kV, doc, pm, an, cdv, ct, osl, rfl, lk, hcd, hD, hK⟩ := F.ex
  rcases hD with ⟨_, rfl⟩ | ⟨e, _⟩
  · exact ⟨fun s us ws X l1 l2 => .of_eq (h kV doc pm an cdv ct us ws l1 l2), fun r1 r2 => r1.append (pickL_vals is r2)⟩
  · exact absurd rfl e
section
variable {X : Cx} {dl : Dr X.w X.K X.mg} {W : WX} {pos p : Pos} {x : Str} {e : Expr} {es : List Expr} {kws : List Keyword} {ra rk : SA} {k n N : Nat} {ks : List Str} {is : List Nat} {m : List D -> M D}
abbrev DK (X : Cx) (dl : Dr X.w X.K X.mg) (W : WX) (kws : List Keyword) (f : SA) : Prop := PK X kws (tDA X dl W f)
theorem dk_nil : DK X dl W [] sa0 := ⟨fun pos pins s sg H Q I q => by
  obtain ⟨F, q⟩ := q
  exact pk_nil.run pos pins s sg H Q I (q.rt [] rfl)⟩
theorem dk_cons {nm : Option Str} {kpos : Pos} {f : SE} (he : DE X dl W e f) (hr : DK X dl W kws rk) : DK X dl W (⟨nm, e, kpos⟩ :: kws) (saC f rk) := ⟨fun pos pins s sg H Q I q => by
  refine (pk_cons he hr).run pos pins s sg H Q I ?_
  obtain ⟨F, q⟩ := q
  refine ⟨F, q.bnd.imp fun d F1 H1 ⟨st1, q1⟩ v rv => ⟨F1, q1.bnd.imp fun ds F2 H2 ⟨st2, q2⟩ vs rvs => ?_⟩⟩
  exact q2.rt (v :: vs) ⟨v, vs, rfl, Rep.mono st2.fs d v rv, rvs⟩⟩
def gCallK (n l N : Nat) (is : List Nat) (m : List D -> M D) (ra rk : SA) : SE := fun G => bnd (ra G) fun ds => bnd (rk G) fun es => if ds.length = n /\ es.length = l /\ (ds ++ pickL is es).length = N then m (ds ++ pickL is es) else fail
theorem callK_rd (hW : ∀ cl d sg sg' H, W cl d sg H -> W cl d sg' H) {sg : L2.St} {H : Hp} {Q : VK} (q : tD X dl W (gCallK n ks.length N is m ra rk) sg H Q) :
    L2.tCallN n ks.length (spD X.K X.mg X.w N m) (fun vs zs => vs ++ pickL is zs) (fun cl d H => ∀ sg, W cl d sg H) (tDA X dl W ra) (tDA X dl W rk) sg H Q := by
  obtain ⟨F, F0, H0, G, s, w, S, g⟩ := q
  refine ⟨F, F0, H0, G, s, w, S, g.bnd.imp fun ds s1 F1 H1 st1 w1 g1 vs rvs => ⟨F1, F0, H0, G, s1, w1, S.step st1, g1.bnd.imp fun es s2 F2 H2 st2 w2 g2 zs rzs => ?_⟩⟩
  by_cases hl : ds.length = n /\ es.length = ks.length /\ (ds ++ pickL is es).length = N
  · rw [if_pos hl] at g2
    have rp := (RepL.mono st2.fs _ _ rvs).append (pickL_rep is rzs)
    refine ⟨rvs.length.symm.trans hl.1, rzs.length.symm.trans hl.2.1, rp.length.symm.trans hl.2.2, dl, F2, _, s2, w2, rp, ?_⟩
    cases er : m (ds ++ pickL is es) s2 with
    | none => rw [er] at g2; exact g2
    | some pr =>
      obtain ⟨r, s3⟩ := pr
      rw [er] at g2
      cases r with
      | ok z => exact g2
      | err x => exact fun F' H' cl d st wd xr sg' => hW _ _ _ _ _ (g2 F' H' cl d st wd xr)
  · rw [if_neg hl] at g2; exact g2.elim
theorem de_callK0 (h : DFnK X.prog X.w X.K X.mg X.base x k 0 ks is N m) (hr : Room k X.A) (tk : Takes X W) (hW : ∀ cl d sg sg' H, W cl d sg H -> W cl d sg' H) (hkw : DK X dl W kws rk) (hg : Gl X x := by rfl)
    (hall : (backToKw pos (keywordEach kws X.env)).all (·.1.isSome) = true := by rfl) (hks : (backToKw pos (keywordEach kws X.env)).filterMap (·.1) = ks := by rfl)
    (hdb : (x == ("__debug__" : Str)) = false := by decide)
    (hpl : ((backTo pos (starEach [] X.env)).any (·.1) || (backToKw pos (keywordEach kws X.env)).any (·.1.isNone)) = false := by rfl) : DE X dl W (.Call (.Name x p) [] kws pos) (gCallK 0 ks.length N is m sa0 rk) := by
  obtain ⟨f, fd, ps, h1, h2, h3, h4, h5⟩ := h.ex
  have R : PE X (.Call (.Name x p) [] kws pos) (L2.tCallN 0 ks.length (spD X.K X.mg X.w N m) (fun vs zs => vs ++ pickL is zs) (fun cl d H => ∀ sg, W cl d sg H) (tDA X dl W sa0) (tDA X dl W rk)) := ⟨fun pins s sg H Q I q => by
    refine wpAny_Call_Name_kw (ld_glob I hg h1 ?_ hdb)
    obtain ⟨F, F0, H0, G, s0, w, S, g⟩ := q
    have q1 := (g.ret w) [] rfl
    refine PySem.W.callWith_KW0 (h₀ := X.base) I.ok.mod.kin h2 hall (thn (hkw.run pos pins s sg H _ I q1) fun ws s2 ⟨zs, H2, I2, rz, l1, l2, q2⟩ => ⟨I2.kIn, ?_⟩) hpl
    rw [hks]
    exact run_fnN (us := []) (vs := []) h5 hr h4 (passes_call tk fun cl d sg H z => z sg) I2 .nil rz rfl l2 q2⟩
  exact PE.of R fun sg H Q q => callK_rd hW q
end
structure CaughtF (K : PySem.W.Frag) (mg : Str -> Option Value) (x a ke : Str) : Prop where
  ex : ∃ (fd : FuncData) (pg : Arguments) (sg : Scope) (c n : Str) (j : Nat) (q1 q2 q3 p1 p2 p3 p4 p5 p6 p7 p8 p9 r1 r2 : Pos),
    FunD K x x pg (caughtBody a c n ke j q1 q2 q3 p1 p2 p3 p4 p5 p6 p7 p8 p9 r1 r2) sg [] [] (He.ga K x) fd /\ Binds K fd [a] [] /\ FnScope [a, c, n] [a] sg /\ Vis sg a /\ mg x = some (.ref (He.ga K x)) /\ mg ke = some (.ref (He.ga K ke)) /\
    sg.names.lookup ke = some .globalImplicit /\ (ke == ("__debug__" : Str)) = false /\ [a, c, n].Nodup /\ sg.names.lookup c = some .local /\ sg.names.lookup n = some .local /\ (c == ("__debug__" : Str)) = false /\ (n == ("__debug__" : Str)) = false /\ (c == ("__classdict__" : Str)) = false /\ (n == ("__classdict__" : Str)) = false
theorem tabs_mem {K : PySem.W.Frag} {tf : List He.Defn} {nm : He.Defn -> Str} {d : He.Defn} (h : d ∈ tf) : ((He.cT K d).2, nm d) ∈ tabsOf K tf nm := List.mem_map.mpr ⟨d, h, rfl⟩
theorem tabs_uniq {K : PySem.W.Frag} {tf : List He.Defn} {nm : He.Defn -> Str} {d : He.Defn} (nd : (tf.map fun p => (He.cT K p).2).Nodup) (h : d ∈ tf) : ∀ p ∈ tabsOf K tf nm, p.1 = (He.cT K d).2 -> p.2 = nm d := fun p hp e => by
  obtain ⟨d', hd', rfl⟩ := List.mem_map.mp hp
  have : d' = d := by
    have inj : ∀ {l : List He.Defn}, (l.map fun p => (He.cT K p).2).Nodup -> ∀ a ∈ l, ∀ b ∈ l, (He.cT K a).2 = (He.cT K b).2 -> a = b := by
      intro l
      induction l with
      | nil => intro _ a ha; cases ha
      | cons z l ih =>
        intro hn a ha b hb eab
        rw [List.map_cons, List.nodup_cons] at hn
        rcases List.mem_cons.mp ha with e1 | h1
        · rcases List.mem_cons.mp hb with e2 | h2
          · rw [e1, e2]
          · exact absurd (List.mem_map.mpr ⟨b, h2, by rw [<- eab, e1]⟩) hn.1
        · rcases List.mem_cons.mp hb with e2 | h2
          · exact absurd (List.mem_map.mpr ⟨a, h1, by rw [eab, e2]⟩) hn.1
          · exact ih hn.2 a h1 b h2 eab
    exact inj nd d' hd' d h e
  rw [this]
end
section
section
variable {K : PySem.W.Frag} {tf : List He.Defn} {nm : He.Defn -> Str} {H : Hp}
theorem tabs_on (h : ∀ p ∈ tf.map (He.cT K), H p.2 = some (.tbl #[])) : ∀ p ∈ tabsOf K tf nm, H p.1 = some (.tbl #[]) := fun p hp => by
  obtain ⟨d, hd, rfl⟩ := List.mem_map.mp hp
  exact h (He.cT K d) (List.mem_map.mpr ⟨d, hd, rfl⟩)
theorem tabs_map : (tabsOf K tf nm).map (·.1) = (tf.map (He.cT K)).map (·.2) := by
  unfold tabsOf
  rw [List.map_map, List.map_map]
  rfl
theorem tabs_on2 (h : ∀ b, H b = none \/ b ∈ (tf.map (He.cT K)).map (·.2) \/ ∃ o xs, H b = some (.frz o (.lst xs))) : ∀ b, H b = none \/ b ∈ (tabsOf K tf nm).map (·.1) \/ ∃ o xs, H b = some (.frz o (.lst xs)) := by
  rw [tabs_map]; exact h
abbrev TBs (K : PySem.W.Frag) (tf : List He.Defn) (mg : Str -> Option Value) (base : Heap) : Prop := ∀ p ∈ tf.map (He.cT K), LamX.TabB base mg p.1 p.2
theorem TBs.at {mg : Str -> Option Value} {base : Heap} (h : TBs K tf mg base) {d : He.Defn} (hd : d ∈ tf) : LamX.TabB base mg (He.cT K d).1 (He.cT K d).2 := h _ (List.mem_map.mpr ⟨d, hd, rfl⟩)
end
end
section
theorem no_clx {K : PySem.W.Frag} {mg : Str -> Option Value} {T : Value} : ∀ c b, ([] : List (Str × Bool)).lookup c = some b -> IsiX K mg c T b := fun _ _ h => nomatch h
theorem one_clx {K : PySem.W.Frag} {mg : Str -> Option Value} {T : Value} {x : Str} {k : Bool} {l : List (Str × Bool)} (h0 : IsiX K mg x T k) (h1 : ∀ c b, l.lookup c = some b -> IsiX K mg c T b) : ∀ c b, ((x, k) :: l).lookup c = some b -> IsiX K mg c T b := fun c b h => by
  rw [List.lookup_cons] at h
  cases e : c == x with
  | true =>
    rw [e] at h
    cases h
    rw [eq_of_beq e]; exact h0
  | false => rw [e] at h; exact h1 c b h
theorem no_flx {K : PySem.W.Frag} {mg : Str -> Option Value} {n : Str} : ∀ c ∈ ([] : List Str), FldX K mg c n := fun _ h => (nomatch h)
theorem one_flx {K : PySem.W.Frag} {mg : Str -> Option Value} {n x : Str} {l : List Str} (h0 : FldX K mg x n) (h1 : ∀ c ∈ l, FldX K mg c n) : ∀ c ∈ x :: l, FldX K mg c n := fun c h => by
  rcases List.mem_cons.mp h with e | h
  · rw [e]; exact h0
  · exact h1 c h
end
section
section
variable {X : Cx} {dl : Dr X.w X.K X.mg} {W : WX} {pos : Pos}
theorem de_dict0 : DE X dl W (.Dict [] [] pos) (fun _ => ret (.dct [] [])) := by
  refine PE.of (PE.lock pe_dnewK) fun sg H Q q => ?_
  obtain ⟨F, F0, H0, G, s, w, S, g⟩ := q
  refine fun p hp => ⟨p, .dK [], rfl, upd_same, ?_, fun od => ?_⟩
  · trivial
  · exact g _ _ (Step.newD w hp) (w.newD hp) _ ⟨p, od, [], rfl, upd_same, rfl, ⟨by simp, List.nodup_nil⟩, rfl⟩
def negD : D -> Option D
  | .int i => some (.int (-i))
  | _ => none
theorem ud_neg : UnR X (unaryOp .USub) (rUD X dl negD) := by
  intro pins s sg H x v Q I rx q
  obtain ⟨F, st, a, d, w, ra, e, k⟩ := q
  match a, e with
  | .int i, e =>
    cases e
    cases (show x = .int i from ra)
    exact un_neg pins s sg H (.int i) v Q I rx ⟨i, rfl, k F H _ Step.refl w rfl⟩
  | .non, e => cases e
  | .bl _, e => cases e
  | .str _, e => cases e
  | .tup _, e => cases e
  | .lst _, e => cases e
  | .obj _ _ _, e => cases e
  | .drw, e => cases e
  | .scr _, e => cases e
  | .dct _ _, e => cases e
  | .dcT _ _, e => cases e
  | .dcN _ _, e => cases e
  | .exm _ _, e => cases e
  | .ptp _, e => cases e
  | .mob _ _ _, e => cases e
  | .exc _ _ _, e => cases e
end
end
section
section
variable {J : It} {n : Nat} {Gd : Hp -> Prop} {Y : Nat -> Hp -> V -> Hp -> Prop}
theorem dc_it (w : Walk J n Gd Y) {g : TG} {tt : TT} {tk tv : TE} {vs : List Nat} {sg : L2.St} {H1 : Hp} {D : Addr} {Qd : Hp -> Prop} (Pv : Nat -> Hp -> Prop) (h0 : Pv 0 (upd H1 D (.dK []))) (hG : ∀ i H, i <= n -> Pv i H -> Gd H)
    (hs : ∀ i x H H', i < n -> Pv i H -> Y i H x H' -> g x (wipe sg vs) H' fun s2 H2 => wipe s2 vs = wipe sg vs /\ tt s2 H2 fun b H3 =>
      if b = true then tk s2 H3 fun y H4 => tv s2 H4 fun z H5 => ∃ kvs k, y = kV k /\ H5 D = some (.dK kvs) /\ kvs.length < sizeLine /\ Pv (i + 1) (upd H5 D (.dK (putK kvs k z))) else Pv (i + 1) H3) (hd : ∀ H, Pv n H -> Qd H) :
    ∃ W : Nat -> Nat -> Hp -> Prop, (∃ m, W 0 m (upd H1 D (.dK []))) /\ ∀ i m H, W i m H ->
      (J.stop i H /\ Qd H) \/ (J.go i H /\ ∃ Nx : Hp -> Prop, (∀ H', Nx H' -> ∃ m', m' < m /\ W (i + 1) m' H') /\ ∀ x H', J.yld i H x H' -> g x (wipe sg vs) H' fun s2 H2 => wipe s2 vs = wipe sg vs /\ tt s2 H2 fun b H3 =>
        if b = true then tk s2 H3 fun y H4 => tv s2 H4 fun z H5 => ∃ kvs k, y = kV k /\ H5 D = some (.dK kvs) /\ kvs.length < sizeLine /\ Nx (upd H5 D (.dK (putK kvs k z))) else Nx H3) := by
  refine ⟨fun i m H => m = n - i /\ i <= n /\ Pv i H, ⟨n, by simp, Nat.zero_le _, h0⟩, ?_⟩
  rintro i m H ⟨rfl, hi, p⟩
  have q := hG i H hi p
  by_cases hlt : i < n
  · exact .inr ⟨w.goes i H hlt q, Pv (i + 1), fun H' p' => ⟨n - (i + 1), by omega, rfl, hlt, p'⟩, fun x H' y => hs i x H H' hlt p (w.yields i H x H' hlt q y)⟩
  · obtain rfl : i = n := by omega
    exact .inl ⟨w.stops H q, hd H p⟩
end
section
variable {X : Cx} {dl : Dr X.w X.K X.mg} {W : WX} {pos p tpos : Pos}
def dcM (f : SG) (u : ST) (hk hv : SE) (G : Sls) : List D -> M (List (Key × D))
  | [] => ret []
  | d :: ds => bnd (ofO (f G d)) fun G' => bnd (u G') fun k => if k then bnd (hk G') fun y => bnd (hv G') fun z => bnd (ofO (keyOf y)) fun j => bnd (dcM f u hk hv G ds) fun r => ret ((j, z) :: r) else dcM f u hk hv G ds
def gDcP (vs : List Nat) (it : SA) (f : SG) (u : ST) (hk hv : SE) : Sls -> M (List (Key × D)) := fun G => bnd (it G) fun ds => noErr (dcM f u hk hv (wipeG G vs) ds)
def gDc (vs : List Nat) (it : SA) (f : SG) (u : ST) (hk hv : SE) : SE := fun G => bnd (gDcP vs it f u hk hv G) fun kvs => ofO (dictOf kvs)
def NewDk (X : Cx) (dl : Dr X.w X.K X.mg) (H : Hp) (kvs : List (Key × D)) (F' H' : Hp) (a : Addr) : Prop :=
  H a = none /\ F' a = none /\ ∃ vs : List V, H' a = some (.dK (mergeK [] ((kvs.map (·.1)).zip vs))) /\ kvs.length = vs.length /\ RepL X.K X.mg dl F' (kvs.map (·.2)) vs
def tDk (X : Cx) (dl : Dr X.w X.K X.mg) (W : WX) (f : Sls -> M (List (Key × D))) : TE := fun sg H Q => ∃ F, tGF X dl W F f (fun kvs F' H' => ∀ a, NewDk X dl H kvs F' H' a -> Q (.ref a) H') sg H
theorem merge_snoc (ks : List Key) (vs : List V) (k : Key) (v : V) (h : ks.length = vs.length) : mergeK [] ((ks ++ [k]).zip (vs ++ [v])) = putK (mergeK [] (ks.zip vs)) k v := by
  rw [List.zip_append h]
  unfold mergeK
  rw [List.foldl_append]
  rfl
theorem wipe_twice (sg : L2.St) (vs : List Nat) : L2.wipe (L2.wipe sg vs) vs = L2.wipe sg vs := by
  apply List.ext_getElem?
  intro j
  by_cases hj : j ∈ vs
  · have wn : ∀ (tg : L2.St) (vs : List Nat), j ∈ vs -> (L2.wipe tg vs)[j]? = if j < tg.length then some none else none := by
      intro tg vs
      induction vs with
      | nil => intro h; simp at h
      | cons v vs ih =>
        intro hm
        unfold L2.wipe
        by_cases hvj : v = j
        · subst hvj
          rw [List.getElem?_set, wipe_length]
          simp
        · rw [List.getElem?_set_ne hvj]
          exact ih (by
            rcases List.mem_cons.mp hm with z | z
            · exact absurd z.symm hvj
            · exact z)
    rw [wn _ _ hj, wn _ _ hj, wipe_length]
  · rw [wipe_keep hj]
theorem none_step {F H F' H' : Hp} {b : Addr} {o : HO} (st : Step dl F H F' H') (h : F b = none) (hb : H b = some o) : F' b = none := by
  cases q : F' b with
  | none => rfl
  | some u =>
    rcases st.nw b u q with z | z
    · rw [h] at z; cases z
    · rw [hb] at z; cases z
theorem dcR {own : List (Str × Nat)} {it : SA} {is : List Nat} {f : SG} {u : ST} {hk hvv : SE} {sg : L2.St} {H : Hp} {Q : VK} (hv : ∀ i ∈ is, i ∈ own.map (·.2)) (q : tDk X dl W (gDcP (own.map (·.2)) it f u hk hvv) sg H Q) :
    tDc (tIm X dl W it) (gD X dl is f) (tDT X dl WF u) (tD X dl WF hk) (tD X dl WF hvv) (own.map (·.2)) sg H Q := by
  obtain ⟨F, F0, H0, G, s, w, S, g⟩ := q
  refine ⟨F, F0, H0, G, s, w, S, Go.imp (Go.at Step.refl g) fun ds s1 F1 H1 st1 w1 g1 J dlen wk Dd hD => ?_⟩
  have g2 := Go.noErr g1
  clear g1 g
  have S1 := S.step st1
  have hDH : H Dd = none := st1.al Dd hD
  have ndD : ¬ dl.has Dd := w1.na hD
  refine dc_it wk (fun i H' => ∃ (F' : Hp) (s' : DS) (acc : List (Key × D)) (accv : List V), Wd dl F' H' s' /\ Step dl F1 H1 F' H' /\ F' Dd = none /\ H' Dd = some (.dK (mergeK [] ((acc.map (·.1)).zip accv))) /\ acc.length = accv.length /\ RepL X.K X.mg dl F' (acc.map (·.2)) accv /\ accv.length <= i /\
      Go X.mg X.K dl (fun _ _ _ => False) F H (dcM f u hk hvv (wipeG G (own.map (·.2))) (ds.drop i) s') fun r _ F2 H2 => ∀ a, NewDk X dl H (acc ++ r) F2 H2 a -> Q (.ref a) H2) ?_ ?_ ?_ ?_
  · refine ⟨F1, s1, [], [], w1.newO hD, Step.newO hD, w1.fnone hD, upd_same, rfl, rfl, Nat.le_refl _, ?_⟩
    simpa using g2
  · rintro i H' hi ⟨F', s', acc, accv, w', st', _⟩ b o nb e
    exact st'.hs b o nb e
  · rintro i x H' H2 hi ⟨F', s', acc, accv, w', st', n', hd', hal, ra, la, go⟩ y
    obtain ⟨F2, d, st2, w2, e2, r2⟩ := y F' s' st'.fs w'
    have hlt : i < ds.length := hi
    have ed : ds.drop i = d :: ds.drop (i + 1) := by
      rw [List.drop_eq_getElem_cons hlt]
      have : ds[i] = d := by
        rw [List.getElem?_eq_getElem hlt] at e2
        exact Option.some.inj e2
      rw [this]
    rw [ed] at go
    have st02 : Step dl F H F2 H2 := st1.trans (st'.trans st2)
    have go1 := Go.at (F1 := F2) (H1 := H2) st02 go
    obtain ⟨G', eG, go2⟩ := go1.ofO
    have go3 := go2 F2 H2 Step.refl w2
    clear go go1 go2
    have nD2 : F2 Dd = none := none_step st2 n' hd'
    have hD2 := st2.hs Dd _ ndD hd'
    refine ⟨F0, H0, F2, wipeG G (own.map (·.2)), s', d, G', w2, (S1.step (st'.trans st2)).wipe _, r2, eG, fun sg2 hw2 S2 => ⟨?_, ?_⟩⟩
    · rw [hw2 (own.map (·.2)) hv, wipe_twice]
    · refine ⟨F2, F0, H0, G', s', w2, S2, Go.imp (Go.at st02 go3) fun k s3 F3 H3 st3 w3 go4 => ?_⟩
      have st03 := st02.trans st3
      have nD3 : F3 Dd = none := none_step st3 nD2 hD2
      have hD3 := st3.hs Dd _ ndD hD2
      cases k with
      | false =>
        refine iteF ?_
        exact ⟨F3, s3, acc, accv, w3, st'.trans (st2.trans st3), nD3, hD3, hal, RepL.mono (st2.trans st3).fs _ _ ra, Nat.le_succ_of_le la, go4⟩
      | true =>
        refine iteT ?_
        refine ⟨F3, F0, H0, G', s3, w3, S2.step st3, Go.imp (Go.at st03 go4) fun yk s4 F4 H4 st4 w4 go5 v rv => ?_⟩
        have st04 := st03.trans st4
        have nD4 : F4 Dd = none := none_step st4 nD3 hD3
        have hD4 := st4.hs Dd _ ndD hD3
        refine ⟨F4, F0, H0, G', s4, w4, (S2.step st3).step st4, Go.imp (Go.at st04 go5) fun yv s5 F5 H5 st5 w5 go6 v2 rv2 => ?_⟩
        have nD5 : F5 Dd = none := none_step st5 nD4 hD4
        have hD5 := st5.hs Dd _ ndD hD4
        have st05 := st04.trans st5
        have go7 := Go.at (F1 := F5) (H1 := H5) st05 go6
        obtain ⟨j, ej, go8⟩ := go7.ofO
        have go9 := go8 F5 H5 Step.refl w5
        have stx : Step dl F' H' F5 H5 := ((st2.trans st3).trans st4).trans st5
        have hkl : (acc.map (·.1)).length = accv.length := by rw [List.length_map]; exact hal
        refine ⟨_, j, key_rep rv ej, hD5, ?_, F5, s5, acc ++ [(j, yv)], accv ++ [v2], ?_, ?_, nD5, ?_, by simp [hal], ?_, by simp; omega, ?_⟩
        · have := length_mergeK ((acc.map (·.1)).zip accv) []
          rw [List.length_zip, List.length_nil] at this
          omega
        · refine ⟨fun b o e => ?_, w5.off, ?_, w5.tb.upd (fun _ _ e => e) (fun q hq z => ndD (.inr (.inr (.inr (.inl ⟨q.2, by rw [<- z]; exact hq⟩))))) (fun _ z => by cases z) (.inl fun _ _ z => by unfold LamX.CodeO at z; cases z), w5.ob.set (fun _ _ e => e) fun ac q hq m => ndD (.inr (.inr (.inr (.inr ⟨ac, q, m, hq⟩))))⟩
          · rw [upd_ne (ne_of_none e nD5)]; exact w5.sub b o e
          · obtain ⟨d1, d2, d3, d4⟩ := w5.dr
            exact ⟨by rw [upd_ne (fun z => ndD (by rw [<- z]; exact .inl rfl))]; exact d1, by rw [upd_ne (fun z => ndD (by rw [<- z]; exact .inr (.inl rfl)))]; exact d2, by rw [upd_ne (fun z => ndD (by rw [<- z]; exact .inr (.inr (.inl rfl))))]; exact d3, d4⟩
        · have st15 : Step dl F1 H1 F5 H5 := st'.trans stx
          exact ⟨st15.fs, fun b o nb e => by rw [upd_ne (ne_of_none e hD)]; exact st15.hs b o nb e, st15.nw, fun b e => by
            by_cases z : b = Dd
            · subst z; exact hD
            · rw [upd_ne z] at e; exact st15.al b e⟩
        · rw [upd_same, List.map_append, List.map_cons, List.map_nil, merge_snoc _ _ _ _ hkl]
        · rw [List.map_append]
          exact (RepL.mono stx.fs _ _ ra).append ⟨v2, [], rfl, rv2, rfl⟩
        · have go10 := Go.at (F1 := F) (H1 := H) Step.refl go9
          refine Go.imp go10 fun r s6 F6 H6 st6 w6 go11 => ?_
          have go12 := go11 F6 H6 st6 w6
          intro a na
          exact go12 a (by simpa using na)
  · rintro H' ⟨F', s', acc, accv, w', st', n', hd', hal, ra, la, go⟩
    rw [List.drop_length] at go
    exact go F' H' (st1.trans st') w' Dd ⟨hDH, n', accv, by simpa using hd', by simpa using hal, by simpa using ra⟩
theorem Wd.lockD {F H : Hp} {s : DS} (w : Wd dl F H s) {p : Addr} {o : HO} (nd : ¬ dl.has p) (h : F p = none) (ho : NotTbl o := by intro _ z; cases z) : Wd dl (upd F p o) (upd H p o) s := by
  refine ⟨fun b u e => ?_, fun b hb => ?_, ?_, w.tb.upd (fun b u e => by rw [upd_ne (ne_of_none e h)]; exact e) (fun q hq z => nd (.inr (.inr (.inr (.inl ⟨q.2, by rw [<- z]; exact hq⟩))))) ho (.inr upd_same), w.ob.set (fun b u e => by rw [upd_ne (ne_of_none e h)]; exact e) fun ac q hq m => nd (.inr (.inr (.inr (.inr ⟨ac, q, m, hq⟩))))⟩
  · by_cases z : b = p
    · subst z; rw [upd_same] at e ⊢; exact e
    · rw [upd_ne z] at e ⊢; exact w.sub b u e
  · rw [upd_ne (fun z => nd (by rw [<- z]; exact hb))]; exact w.off b hb
  · obtain ⟨d1, d2, d3, d4⟩ := w.dr
    exact ⟨by rw [upd_ne (fun z => nd (by rw [<- z]; exact .inl rfl))]; exact d1, by rw [upd_ne (fun z => nd (by rw [<- z]; exact .inr (.inl rfl)))]; exact d2, by rw [upd_ne (fun z => nd (by rw [<- z]; exact .inr (.inr (.inl rfl))))]; exact d3, d4⟩
theorem Step.lockD {F H F1 H1 : Hp} (st : Step dl F H F1 H1) {p : Addr} {o : HO} (h0 : H p = none) (h : F1 p = none) : Step dl F H (upd F1 p o) (upd H1 p o) :=
  ⟨fun b u e => by rw [upd_ne (ne_of_none (st.fs b u e) h)]; exact st.fs b u e, fun b u nb e => by rw [upd_ne (ne_of_none e h0)]; exact st.hs b u nb e, fun b u e => by
    by_cases z : b = p
    · subst z; exact .inr h0
    · rw [upd_ne z] at e; exact st.nw b u e, fun b e => by
    by_cases z : b = p
    · subst z; exact h0
    · rw [upd_ne z] at e; exact st.al b e⟩
end
end
section
end
section
section
variable {X : Cx} {dl : Dr X.w X.K X.mg} {W : WX} {pos : Pos}
def gPairs : List (SE × SE) -> Sls -> M (List (Key × D))
  | [], _ => ret []
  | p :: r, G => bnd (p.1 G) fun y => bnd (p.2 G) fun z => bnd (ofO (keyOf y)) fun j => bnd (gPairs r G) fun rest => ret ((j, z) :: rest)
def dictOf15 (kvs : List (Key × D)) : Option D := if kvs.length <= 15 then dictOf kvs else none
def gDisp (l : List (SE × SE)) : SE := fun G => bnd (gPairs l G) fun kvs => ofO (dictOf15 kvs)
abbrev trsOf (X : Cx) (dl : Dr X.w X.K X.mg) (W : WX) (l : List (SE × SE)) : List (TE × TE) := l.map fun p => (tD X dl W p.1, tD X dl W p.2)
theorem pairs_rd : ∀ (l : List (SE × SE)) {F : Hp} {sg : L2.St} {H : Hp} {Q : List (V × V) -> Hp -> Prop},
    tGF X dl W F (gPairs l) (fun kvs F' H' => ∀ vs : List V, kvs.length = vs.length -> RepL X.K X.mg dl F' (kvs.map (·.2)) vs -> Q (((kvs.map (·.1)).zip vs).map fun kv => (kV kv.1, kv.2)) H') sg H -> tPairs (trsOf X dl W l) sg H Q
  | [], F, sg, H, Q, q => q.rt [] rfl rfl
  | p :: r, F, sg, H, Q, q => by
    refine ⟨F, q.bnd.imp fun y F1 H1 ⟨st1, q1⟩ v rv => ⟨F1, q1.bnd.imp fun z F2 H2 ⟨st2, q2⟩ u ru => ?_⟩⟩
    obtain ⟨F0, H0, G, s, w, S, g⟩ := q2
    obtain ⟨j, ej, g1⟩ := (Go.bnd g).ofO
    have g2 := g1 F2 H2 Step.refl w
    have g3 : tGF X dl W F2 (fun G => bnd (gPairs r G) fun rest => ret ((j, z) :: rest)) _ sg H2 := ⟨F0, H0, G, s, w, S, g2⟩
    refine pairs_rd r (g3.bnd.imp fun kvs F3 H3 ⟨st3, q3⟩ vs hl rvs => ?_)
    have k := q3.rt (u :: vs) (by simp [hl]) ⟨u, vs, rfl, Rep.mono st3.fs _ _ ru, rvs⟩
    rw [key_rep rv ej]
    exact k
theorem de_disp {keys : List (Option Expr)} {values : List Expr} {l : List (SE × SE)} (h : PPs X pos keys values (trsOf X dl W l)) (hall : keys.all (·.isSome) = true := by rfl) (hl : keys.length = values.length := by rfl) (h0 : keys ≠ [] := by intro z; cases z)
    (h15 : keys.length <= 15 := by decide) : DE X dl W (.Dict keys values pos) (gDisp l) := by
  refine PE.of (PE.lock (pe_disp h hall hl h0 h15)) fun sg H Q q p hp => ?_
  obtain ⟨F, F0, H0, G, s, w, S, g⟩ := q
  have ndp : ¬ dl.has p := w.na hp
  have stp : Step dl F H F (upd H p (.dK [])) := Step.newO hp
  refine pairs_rd l (F := F) ⟨F0, H0, G, s, w.newO hp, S.step stp, Go.imp (Go.at stp g) fun kvs s1 F1 H1 st1 w1 g1 vs hlen rvs => ?_⟩
  have hp1 : H1 p = some (.dK []) := st1.hs p _ ndp upd_same
  have fp1 : F1 p = none := none_step st1 (w.fnone hp) upd_same
  obtain ⟨d, e, g2⟩ := g1.ofO
  unfold dictOf15 at e
  by_cases h15k : kvs.length <= 15
  case neg => rw [if_neg h15k] at e; cases e
  rw [if_pos h15k] at e
  refine ⟨hp1, (kvs.map (·.1)).zip vs, rfl, ?_, p, _, rfl, upd_same, trivial, fun od => ?_⟩
  · rw [List.length_zip, List.length_map]; omega
  · unfold dictOf at e
    split at e
    · rename_i hcnd
      cases e
      have hl' : (kvs.map (·.1)).length = vs.length := by rw [List.length_map]; exact hlen
      have nd := nodupK_iff.mp hcnd.2
      have hz : ((kvs.map (·.1)).zip vs).map (·.1) = kvs.map (·.1) := by rw [List.map_fst_zip]; omega
      rw [mergeK_new _ [] (by rw [List.nil_append, hz]; exact nd), List.nil_append, upd_upd]
      have stx := Step.lockD (o := .frz od (.dK ((kvs.map (·.1)).zip vs))) (stp.trans st1) hp fp1
      have wx := Wd.lockD (o := .frz od (.dK ((kvs.map (·.1)).zip vs))) w1 ndp fp1
      refine g2 _ _ stx wx (.ref p) ⟨p, od, vs, rfl, upd_same, hl', ⟨by rw [List.length_map]; exact hcnd.1, nd⟩, RepL.mono (fun b u e => ?_) _ _ rvs⟩
      rw [upd_ne (ne_of_none e fp1)]; exact e
    · cases e
end
end
section
end
section
section
variable {X : Cx} {dl : Dr X.w X.K X.mg} {W : WX} {o e : Expr} {fa fb : SE} {apos pos : Pos}
def joinD (a : Str) (d : D) : Option D := (txts d).bind fun ys => if (ys.map (·.length)).sum + ys.length * a.length <= 16777216 then some (.str (Txt.join a ys)) else none
def gJoin (fa fb : SE) : SE := fun G => bnd (fa G) fun x => bnd (ofO (txt x)) fun a => bnd (fb G) fun y => ofO (joinD a y)
theorem txt_some {d : D} {x : Str} (h : txt d = some x) : d = .str x := by
  cases d with
  | str y => cases h; rfl
  | _ => cases h
theorem reps_str {K : PySem.W.Frag} {mg : Str -> Option Value} {wd : World} {dl : Dr wd K mg} {F : Hp} : ∀ {ys : List Str} {vs : List V}, RepL K mg dl F (ys.map D.str) vs -> vs = ys.map V.str
  | [], vs, r => r
  | y :: ys, vs, r => by
    obtain ⟨v, vs', rfl, r1, r2⟩ := r
    rw [show v = V.str y from r1, reps_str r2]; rfl
theorem de_join (ha : DE X dl W o fa) (hb : DE X dl W e fb) (hs : starEach [e] X.env = [(false, eval e X.env)] := by rfl) (hbase : attributeBase o "join" X.env (eval o X.env) = eval o X.env := by rfl) (hline : (apos.endLine == pos.line) = true := by rfl) :
    DE X dl W (.Call (.Attribute o "join" apos) [e] [] pos) (gJoin fa fb) := by
  refine PE.of (pe_join ha hb hs hbase hline) fun sg H Q q => ?_
  obtain ⟨F, q⟩ := q
  refine ⟨F, q.bnd.imp fun x F1 H1 ⟨st1, q1⟩ v rv => ?_⟩
  obtain ⟨F0, H0, G, s, w, S, g⟩ := q1
  obtain ⟨a, ea, g1⟩ := (Go.bnd g).ofO
  have g2 := g1 F1 H1 Step.refl w
  cases txt_some ea
  have rv : v = .str a := rv
  subst rv
  have q2 : tGF X dl W F1 (fun G => bnd (fb G) fun y => ofO (joinD a y)) _ sg H1 := ⟨F0, H0, G, s, w, S, g2⟩
  refine ⟨⟨a, rfl⟩, F1, q2.bnd.imp fun y F2 H2 ⟨st2, q3⟩ u ru => ?_⟩
  obtain ⟨d, s2, e2, w2, k⟩ := q3.op
  unfold joinD txts at e2
  cases ei : itemsTL y with
  | none => rw [ei] at e2; cases e2
  | some ds =>
    rw [ei] at e2
    cases em : ds.mapM txt with
    | none => simp only [Option.bind_some, em] at e2; cases e2
    | some ys =>
      simp only [Option.bind_some, em] at e2
      split at e2
      · rename_i hz
        cases e2
        obtain ⟨p, vs, rfl, h1, h2, h3⟩ := seq_of w2.sub ru ei
        rw [mapM_txt em] at h3
        rw [reps_str h3] at h1
        exact ⟨a, p, ys, rfl, rfl, h1.symm, hz, k F2 H2 Step.refl w2 (.str _) rfl⟩
      · cases e2
end
end
section
end
section
section
variable {X : Cx} {dl : Dr X.w X.K X.mg} {W : WX} {a b e : Expr} {fa fb : SE} {pos p : Pos}
theorem reps_up {K : PySem.W.Frag} {mg : Str -> Option Value} {wd : World} {dl : Dr wd K mg} {F : Hp} (a b : Int) : RepL K mg dl F (upFrom a (b - a).toNat) (rgV a b) := by
  unfold upFrom rgV
  generalize List.range (b - a).toNat = l
  induction l with
  | nil => rfl
  | cons i l ih => exact ⟨_, _, rfl, rfl, ih⟩
end
end
section
end
section
end
section
end
section
section
variable {X : Cx} {dl : Dr X.w X.K X.mg} {W : WX}
def rInT (K : PySem.W.Frag) (b : Bool) : R2 := fun x y H Q => ∃ d ds, Dp K H x d /\ Dp K H y (.tuple ds) /\ SeqAt.shaped d = true /\ SeqAt.shaped (.tuple ds) = true /\ Q (.bl (xor b (ds.any fun z => PyData.eqv z d))) H
theorem op_inT (hu : X.A.units + 65 < cLine) : OpR X (compareOp .In) (rInT X.K false) := by
  intro pins s σ H x y v u Q I rx ry h
  obtain ⟨d, ds, hd, he, sd, se, q⟩ := h; obtain ⟨as, r1⟩ := Dp.reads I d x v hd rx; obtain ⟨bs, r2⟩ := Dp.reads I (.tuple ds) y u he ry
  rw [Bool.false_xor] at q
  exact SeqAt.in_tuple_reads r2 r1 (SeqAt.canLay_of_shaped se) (SeqAt.canLay_of_shaped sd) (room_in_shaped sd hu) ⟨.bl _, H, I, rfl, q⟩
def seqP : PyData -> Option (Bool × List PyData)
  | .list ps => some (false, ps)
  | .tuple ps => some (true, ps)
  | _ => none
def anyB (a b : D) : Option Bool := (toP a).bind fun p => (toP b).bind fun q => (seqP q).bind fun ps => if (SeqAt.shaped p && SeqAt.shaped q) = true then some (ps.2.any fun z => PyData.eqv z p) else none
def inX (a b : D) : Option D := (anyB a b).map .bl
theorem anyB_some {a b : D} {t : Bool} (e : anyB a b = some t) : ∃ p, toP a = some p /\ SeqAt.shaped p = true /\ ((∃ ps, toP b = some (.list ps) /\ SeqAt.shaped (.list ps) = true /\ t = ps.any fun z => PyData.eqv z p) \/ ∃ ps, toP b = some (.tuple ps) /\ SeqAt.shaped (.tuple ps) = true /\ t = ps.any fun z => PyData.eqv z p) := by
  unfold anyB at e
  cases e1 : toP a with
  | none => rw [e1] at e; cases e
  | some p =>
    rw [e1] at e
    cases e2 : toP b with
    | none => rw [e2] at e; cases e
    | some q =>
      rw [e2] at e
      simp only [Option.bind_some] at e
      cases e3 : seqP q with
      | none => rw [e3] at e; cases e
      | some ps =>
        rw [e3] at e
        simp only [Option.bind_some] at e
        split at e
        · rename_i c
          obtain ⟨c1, c2⟩ := Bool.and_eq_true_iff.mp c
          cases e
          cases q <;> first | cases e3 | skip
          · exact ⟨p, rfl, c1, .inl ⟨_, rfl, c2, rfl⟩⟩
          · exact ⟨p, rfl, c1, .inr ⟨_, rfl, c2, rfl⟩⟩
        · cases e
theorem od_inX (hu : X.A.units + 65 < cLine) : OpR X (compareOp .In) (rD X dl inX) := by
  refine rd_of (opR_or (op_inD hu) (op_inT hu)) fun x y H Q F s a b d w ra rb e k => ?_
  unfold inX at e
  cases q : anyB a b with
  | none => rw [q] at e; cases e
  | some t =>
    rw [q] at e
    cases e
    obtain ⟨p, h1, h2, ⟨ps, h3, h4, rfl⟩ | ⟨ps, h3, h4, rfl⟩⟩ := anyB_some q
    · exact .inl ⟨p, ps, dp_of w.sub _ _ _ ra h1, dp_of w.sub _ _ _ rb h3, h2, h4, k F H _ Step.refl w rfl⟩
    · exact .inr ⟨p, ps, dp_of w.sub _ _ _ ra h1, dp_of w.sub _ _ _ rb h3, h2, h4, by rw [Bool.false_xor]; exact k F H _ Step.refl w rfl⟩
end
end
section
end
section
end
section
end
end EK
namespace EK
open PySem PySem.Spec PyProof.Rows L2 HT
section
end
end EK
namespace EK
open PySem PySem.Spec PyProof.Rows L2 LamX
section
theorem Un.drop {fs ex : List Addr} {H H' : Hp} {h h' : Heap} {w : Addr} (u : Un (w :: fs) ex H H' h h') (hw : h.get? w = none) : Un fs ex H H' h h' where
  keep := fun b o q n hb hx => u.keep b o q n (fun z => by
    rcases List.mem_cons.mp z with e | e
    · rw [e, hw] at q; cases q
    · exact hb e) hx
  slot := fun b o q n hb hx => u.slot b o q n (List.mem_cons_of_mem _ hb) hx
  free := u.free
  there := u.there
  tups := u.tups
  frzs := u.frzs
  tbls := u.tbls
section
variable {X : Cx} {pins : List (Addr × Obj)} {σ : L2.St} {H : Hp} {s : Shared}
theorem pe_act2 {CXw CXg : CXT} {Ew Eg : XK} {Nw Ng : List Str} {qw qg : Str} {sw sg : Scope} {gw g f c' : Addr} {cdw cdg pm ctv : Value} {params : Arguments} {body : Expr} {scope : Scope} {k i : Nat} {a : Str} {pn : List (Addr × Obj)} {xe : Value -> Shared -> Prop} {W : WX} {E : XK} {tb : TE} {p1 p2 : Pos}
    {pinsW : List (Addr × Obj)} {σW : L2.St} {HW : Hp} {sW : Shared}
    (I : Inv X pins σ H s) (L : LamS X.env.scope scope) (hf : s.heap.get? f = some (PySem.W.kla_obj "<lambda>" (X.env.qual ++ "<lambda>") params body scope (cloFrom X.env.cells scope.names []) pm c' ctv)) (hfn : H f = none) (hfr : f ∉ frs X.stack)
    (hbind : bindArgs (PySem.W.kla_fn "<lambda>" (X.env.qual ++ "<lambda>") params body scope (cloFrom X.env.cells scope.names []) pm (.ref c') ctv) ⟨[], []⟩ = pure [])
    (IW : Inv (cxOf CXw X.prog X.w X.K X.mg X.base Nw qw sw gw cdw X.A X.stack s H Ew) pinsW σW HW sW)
    (tk : Takes ((cxOf CXg X.prog X.w X.K X.mg X.base Ng qg sg g cdg (cxOf CXw X.prog X.w X.K X.mg X.base Nw qw sw gw cdw X.A X.stack s H Ew).A (cxOf CXw X.prog X.w X.K X.mg X.base Nw qw sw gw cdw X.A X.stack s H Ew).stack sW HW Eg).tr pn xe) W) (hW : ∀ cls d σ' H', E cls d H' -> W cls d σ' H')
    (hr : Room (k + 1) ((cxOf CXw X.prog X.w X.K X.mg X.base Nw qw sw gw cdw X.A X.stack s H Ew).A.deeper (envOfC qg sg sW.heap.objs.size g cdg)))
    (hbody : ∀ (A : Around) (outer : List Env) (s : Shared) (H : Hp), Room k (A.deeper (lamEnv X scope s.heap.objs.size f c')) -> PE (lamCx X A outer s H E scope f c') body tb)
    (hN : Ng[i]? = some a) (hv : Vis sg a) (hd : (a == ("__debug__" : Str)) = false := by decide) (hcd : (a == ("__classdict__" : Str)) = false := by decide) :
    PE ((cxOf CXg X.prog X.w X.K X.mg X.base Ng qg sg g cdg (cxOf CXw X.prog X.w X.K X.mg X.base Nw qw sw gw cdw X.A X.stack s H Ew).A (cxOf CXw X.prog X.w X.K X.mg X.base Nw qw sw gw cdw X.A X.stack s H Ew).stack sW HW Eg).tr pn xe) (.Call (.Name a p1) [] [] p2)
      (fun σZ HZ Q => σZ[i]? = some (some (.ref f)) /\ HZ c' = some (CodeO c' (X.env.qual ++ "<lambda>")) /\ tb σ HZ Q) := by
  refine ⟨fun pinsZ sZ σZ HZ Q IZ h => ?_⟩
  obtain ⟨hs, hc, ht⟩ := h
  refine wpAny_Call_Name_kw (thn ((pe_var (pos := p1) (i := i) hN hv hd hcd).run pinsZ sZ σZ HZ (fun v H1 => v = .ref f /\ H1 = HZ) IZ ⟨.ref f, hs, rfl, rfl⟩) fun u s1 ⟨v, H1, I1, r1, q1⟩ => ?_)
  obtain ⟨ev, eH⟩ := q1
  subst ev
  rw [eH] at I1
  obtain rfl : u = Value.ref f := r1
  have unW : Un (frs X.stack) [] H HW s.heap sW.heap := IW.base
  have fW := unW.keep f _ hf hfn hfr (fun z => nomatch (show f ∈ ([] : List Addr) from z))
  have fWn := unW.free f _ hf hfn (fun z => nomatch (show f ∈ ([] : List Addr) from z))
  have hst : frs (cxOf CXw X.prog X.w X.K X.mg X.base Nw qw sw gw cdw X.A X.stack s H Ew).stack = s.heap.objs.size :: frs X.stack := rfl
  have fWr : f ∉ frs (cxOf CXw X.prog X.w X.K X.mg X.base Nw qw sw gw cdw X.A X.stack s H Ew).stack := fun z => by
    rw [hst] at z
    rcases List.mem_cons.mp z with e | e
    · exact absurd (Heap.lt_size hf) (by rw [e]; exact Nat.lt_irrefl _)
    · exact hfr e
  have unZ : Un (s.heap.objs.size :: frs X.stack) [] HW HZ sW.heap s1.heap := I1.base
  have of1 := unZ.keep f _ fW fWn (by rw [hst] at fWr; exact fWr) (fun z => nomatch (show f ∈ ([] : List Addr) from z))
  refine PySem.W.callWith_F0 ⟨_, _, _, _, of1⟩ ?_
  have un : Un (frs X.stack) [] H HZ s.heap s1.heap := Un.drop ((unW.mono (fun b hb => List.mem_cons_of_mem _ hb) fun b hb => hb).trans unZ) (by
    cases e : s.heap.get? s.heap.objs.size with
    | none => rfl
    | some o => exact absurd (Heap.lt_size e) (Nat.lt_irrefl _))
  obtain ⟨⟨oc, vs, t, hoc, hdc, hvc⟩, _, _⟩ := I1.hok c' _ hc
  have rc : codeAny (model X.prog X.w) ((cxOf CXw X.prog X.w X.K X.mg X.base Nw qw sw gw cdw X.A X.stack s H Ew).A.deeper (envOfC qg sg sW.heap.objs.size g cdg)) (.call (.ref f) ⟨[], []⟩) (CR (L2.CX X.prog X.w) (envOfC qg sg sW.heap.objs.size g cdg :: (cxOf CXw X.prog X.w X.K X.mg X.base Nw qw sw gw cdw X.A X.stack s H Ew).stack) X.prog X.w HZ s1 Q E) s1 := by
    refine PySem.W.kla_callFunE hr.depth of1 rfl L.co L.gen rfl ⟨c', oc, vs, t, rfl, hoc, hdc, hvc⟩ ?_
    rw [hbind]
    refine wpAny_pure (wpAny_newFunctionEnv (fun y hy => (L.own y hy).2) (fun y hy => absurd hy (by simp)) (fun h₁ hns hsb => ⟨I1.nolimit.fresh _ hsb, ?_⟩) L.kind)
    show codeAny _ _ (.expr body (lamEnv X scope s1.heap.objs.size f c')) _ _
    have kp : ∀ b o, s1.heap.get? b = some o -> h₁.get? b = some o := fun b o e => hsb.extBut b o (Nat.ne_of_lt (Heap.lt_size e)) (Heap.get?_push_of_some _ e)
    have J : Inv (lamCx X ((cxOf CXw X.prog X.w X.K X.mg X.base Nw qw sw gw cdw X.A X.stack s H Ew).A.deeper (envOfC qg sg sW.heap.objs.size g cdg)) (envOfC qg sg sW.heap.objs.size g cdg :: (cxOf CXw X.prog X.w X.K X.mg X.base Nw qw sw gw cdw X.A X.stack s H Ew).stack) s1 HZ E scope f c') [] σ HZ { s1 with heap := h₁, toks := s1.toks + ([] : List (Str × Value)).length } :=
      lam_start2 I L I1.env0 hr.hd un hns kp
    refine PySem.W.kla_codeExpr (wpAny_mono ((hbody _ _ s1 HZ (hr.deeper _)).run [] _ _ HZ Q J ht) (fun v s' hq => ?_) fun e s' hq => hq)
    obtain ⟨w', H', J', rv, q⟩ := hq
    exact ⟨w', H', J'.os, J'.bare, J'.base, J'.hok, rv, q⟩
  have hx : Passes (L2.CX X.prog X.w) ((cxOf CXg X.prog X.w X.K X.mg X.base Ng qg sg g cdg (cxOf CXw X.prog X.w X.K X.mg X.base Nw qw sw gw cdw X.A X.stack s H Ew).A (cxOf CXw X.prog X.w X.K X.mg X.base Nw qw sw gw cdw X.A X.stack s H Ew).stack sW HW Eg).tr pn xe) E := passes_call tk hW
  refine wpAny_call (codeAny_mono rc fun r s' hq => ?_)
  cases r with
  | error e => exact hx pinsZ σZ HZ s1 e s' I1 hq
  | ok fl =>
    cases fl with
    | ret u => exact I1.after hq
    | next => exact False.elim hq
    | brk => exact False.elim hq
    | cont => exact False.elim hq
theorem pe_caughtvar {Nw Ng : List Str} {xw y a b : Str} {sw sg : Scope} {gw g f c' : Addr} {cdw dV kV doc pm' cdv ct ocd pm ctv : Value} {an od : Option Addr} {osl : Array (Option Value)} {pg : Arguments} {bg : List Stmt} {params : Arguments} {body : Expr} {scope : Scope} {k : Nat} {tka : XK -> TE} {TT : (XK -> Hp -> VK -> Prop) -> Hp -> VK -> Prop} {p p2 posL : Pos}
    (I : Inv X pins σ H s) (L : LamS X.env.scope scope) (hf : s.heap.get? f = some (PySem.W.kla_obj "<lambda>" (X.env.qual ++ "<lambda>") params body scope (cloFrom X.env.cells scope.names []) pm c' ctv)) (hfn : H f = none) (hfr : f ∉ frs X.stack)
    (hbind : bindArgs (PySem.W.kla_fn "<lambda>" (X.env.qual ++ "<lambda>") params body scope (cloFrom X.env.cells scope.names []) pm (.ref c') ctv) ⟨[], []⟩ = pure [])
    (hgl : Gl (cxOf C8.CX0 X.prog X.w X.K X.mg X.base Nw xw sw gw cdw X.A X.stack s H C8.E0) y) (hmm : X.mg y = some (.ref g)) (hk : PySem.W.keepIn X.K (.ref g) = true)
    (lk : X.K.lookup g = some ⟨ocd, od, .func (PySem.W.fnOf y y pg bg sg dV kV doc pm' an cdv ct), osl⟩) (hcg : PySem.W.codeIn X.K cdv y = true) (hb : L2.Binds X.K (PySem.W.fnOf y y pg bg sg dV kV doc pm' an cdv ct) [a] []) (Sg : FnScope Ng [a] sg) (hNg : Ng[0]? = some a) (hva : Vis sg a)
    (hG : GivesTo (cxOf C8.CX0 X.prog X.w X.K X.mg X.base Nw xw sw gw cdw X.A X.stack s H C8.E0) Ng y sg g cdv bg a (X.env.qual ++ "<lambda>") TT)
    (hNw : Nw[0]? = some b) (hvb : Vis sw b) (hrm : Room (k + 2) (cxOf C8.CX0 X.prog X.w X.K X.mg X.base Nw xw sw gw cdw X.A X.stack s H C8.E0).A)
    (hbdy : ∀ (A : Around) (outer : List Env) (st : Shared) (H : Hp) (Ev : XK), Room k (A.deeper (lamEnv X scope st.heap.objs.size f c')) -> PE (lamCx X A outer st H Ev scope f c') body (tka Ev))
    (hdb : (y == ("__debug__" : Str)) = false := by decide) (hda : (a == ("__debug__" : Str)) = false := by decide) (hca : (a == ("__classdict__" : Str)) = false := by decide) (hdw : (b == ("__debug__" : Str)) = false := by decide) (hcw : (b == ("__classdict__" : Str)) = false := by decide) :
    PE (cxOf C8.CX0 X.prog X.w X.K X.mg X.base Nw xw sw gw cdw X.A X.stack s H C8.E0).nox (.Call (.Name y p) [.Name b p2] [] posL)
      (fun σW HW Q => σW[0]? = some (some (.ref f)) /\ HW c' = some (CodeO c' (X.env.qual ++ "<lambda>")) /\ TT (fun Ev H' Q' => tka Ev σ H' Q') HW Q) := by
  refine ⟨fun pinsW sW σW HW Q IW h => ?_⟩
  obtain ⟨h0, hco, ht⟩ := h
  refine wpAny_Call_Name_kw (ld_glob IW hgl hmm ?_ hdb)
  refine PySem.W.callWith_K (h₀ := X.base) IW.ok.mod.kin hk ?_ (by rfl) (by rfl)
  show wpAny _ _ (spliced ((false, eval (.Name b p2) _) :: backTo posL (starEach [] _))) _ _ sW
  refine Calls.spliced_cons (thn ((pe_var (pos := p2) (i := 0) hNw hvb hdw hcw).run pinsW sW σW HW (fun v H1 => v = .ref f /\ H1 = HW) IW ⟨.ref f, h0, rfl, rfl⟩) fun u s1 ⟨v, H1, I1, r1, q1⟩ => ?_)
  obtain ⟨ev, eH⟩ := q1
  subst ev
  rw [eH] at I1
  obtain rfl : u = Value.ref f := r1
  refine Calls.spliced_nil ⟨I1.kIn, ?_⟩
  have rcd : codeAny (model X.prog X.w) (cxOf C8.CX0 X.prog X.w X.K X.mg X.base Nw xw sw gw cdw X.A X.stack s H C8.E0).A (.call (.ref g) ⟨[.ref f], []⟩) (CR C8.CX0 (cxOf C8.CX0 X.prog X.w X.K X.mg X.base Nw xw sw gw cdw X.A X.stack s H C8.E0).stack X.prog X.w HW s1 Q C8.E0) s1 := by
    refine run_ofS (N := Ng) (ps := [a]) (us := [.ref f]) (vs := [.ref f]) lk hcg Sg hrm I1.env0 (hb s1 [.ref f] I1.kIn rfl) (.cons rfl .nil) rfl fun hr' => ?_
    obtain ⟨t', ht', hq'⟩ := hG f c' s1 HW Q (fun Ev H' Q' => tka Ev σ H' Q') (fun W pn xe Ev p1 p2 tk hW => pe_act2 (i := 0) I L hf hfn hfr hbind I1.unwish tk hW hr' (fun A outer st H hr2 => hbdy A outer st H Ev hr2) hNg hva hda hca) hco ht
    exact ⟨t', ht'.nox, hq'⟩
  refine wpAny_call (codeAny_mono rcd fun r s2 hq => ?_)
  cases r with
  | error e => exact (show False from hq).elim
  | ok fl =>
    cases fl with
    | ret u => exact I1.after hq
    | next => exact False.elim hq
    | brk => exact False.elim hq
    | cont => exact False.elim hq
end
def wordM (N : Nat) (br : SS) (d : D) : M D := bnd (br (none :: some (.fz d) :: List.replicate (N - 2) none)) fun o => match o with
  | .next _ => ret .non
  | .ret d => ret d
  | _ => fail
def gWord (kx : List Str) (f : SE) (N : Nat) (br : SS) : SE := fun G => bnd (gCaught kx f G) fun d => noErr (wordM N br d)
section
variable {X : Cx} {dl : Dr X.w X.K X.mg} {W : WX}
theorem sim_word {K : PySem.W.Frag} {mg : Str -> Option Value} {wd : World} {dl : Dr wd K mg} {F H : Hp} {b er : Str} {r : List Str} {fa : Addr} {d : D} {v : V} (h : Rep K mg dl F d v) : Sim K mg dl F H F H ((L2.start (b :: er :: r) [.ref fa]).set 1 (some v)) (none :: some (.fz d) :: List.replicate r.length none) := by
  have e0 : (L2.start (b :: er :: r) [.ref fa]).set 1 (some v) = some (.ref fa) :: some v :: List.replicate r.length none := by
    simp [L2.start, List.replicate_succ]
  rw [e0]
  have key : ∀ (i : Nat) (s : Sl), (none :: some (.fz d) :: List.replicate r.length none : Sls)[i]? = some (some s) -> i = 1 /\ s = .fz d := fun i s e => by
    match i with
    | 0 => cases e
    | 1 => cases e; exact ⟨rfl, rfl⟩
    | i + 2 =>
      rw [List.getElem?_cons_succ, List.getElem?_cons_succ, List.getElem?_replicate] at e
      split at e <;> cases e
  refine ⟨by simp, fun i s e => ?_, fun i j s t e1 e2 _ _ _ => ?_, Step.refl, Trs.no fun i t e => by
    obtain ⟨_, z⟩ := key i _ e
    cases z⟩
  · obtain ⟨rfl, rfl⟩ := key i s e
    exact ⟨v, rfl, h⟩
  · rw [(key i s e1).1, (key j t e2).1]
def TWord (X : Cx) (dl : Dr X.w X.K X.mg) (CS : Addr) (Nw : List Str) (br : SS) : Addr -> (XK -> Hp -> VK -> Prop) -> Hp -> VK -> Prop := fun fa tl H Q =>
  TCaught X.K CS tl H fun v H1 => tS X dl (fun _ _ _ _ => False) br { nx := fun _ H' => Q .non H', rt := Q } ((L2.start Nw [.ref fa]).set 1 (some v)) H1
theorem wordM_go {F0 H0 F1 H1 : Hp} {b er : Str} {r : List Str} {br : SS} {d : D} {v : V} {s1 : DS} {Q : VK} {W' : XK'} (st : Step dl F0 H0 F1 H1) (w : Wd dl F1 H1 s1) (rv : Rep X.K X.mg dl F1 d v)
    (g : Go X.mg X.K dl W' F1 H1 (noErr (wordM (r.length + 2) br d) s1) fun a _ F' H' => ∀ u, Rep X.K X.mg dl F' a u -> Q u H') (fa : Addr) :
    tS X dl (fun _ _ _ _ => False) br { nx := fun _ H' => Q .non H', rt := Q } ((L2.start (b :: er :: r) [.ref fa]).set 1 (some v)) H1 := by
  refine ⟨F1, H1, F1, none :: some (.fz d) :: List.replicate r.length none, s1, w, sim_word rv, ?_⟩
  unfold noErr wordM bnd at g
  rw [show r.length + 2 - 2 = r.length from rfl] at g
  cases e : br (none :: some (.fz d) :: List.replicate r.length none) s1 with
  | none => rw [e] at g; exact g
  | some p =>
    obtain ⟨o, s3⟩ := p
    rw [e] at g
    cases o with
    | err y => exact (show False from g).elim
    | ok o =>
      cases o with
      | next G => exact fun F' H' sg' _ w' S => g F' H' S.st w' .non rfl
      | brk G => exact (show False from g).elim
      | cont G => exact (show False from g).elim
      | ret z => exact fun F' H' u st' w' ru => g F' H' st' w' u ru
end
end
end EK
namespace EK
open PySem PySem.Spec PyProof.Rows L2
section
end
section
end
section
end
section
end
section
end
section
section
variable {X : Cx} {dl : Dr X.w X.K X.mg} {W : WX} {pos : Pos}
theorem ds_parT (i j : Nat) {x y : Str} {a b : Expr} {f g : Sls -> M Sl} {px py pt : Pos} {kt k2 : Nat} {pt2 : Pos} (hc : X.calm = true) (hN : X.N.Nodup) (ha : DES X dl W a f) (hb : DES X dl W b g)
    (hi : X.N[i]? = some x := by rfl) (hj : X.N[j]? = some y := by rfl)
    (hx : Loc X.env.scope x := by first | exact Or.inl rfl | exact Or.inr rfl) (hy : Loc X.env.scope y := by first | exact Or.inl rfl | exact Or.inr rfl)
    (hfx : X.fn x = true \/ X.env.scope.names.lookup x = some .local := by first | exact .inl rfl | exact .inr rfl | assumption) (hfy : X.fn y = true \/ X.env.scope.names.lookup y = some .local := by first | exact .inl rfl | exact .inr rfl | assumption)
    (hw : swappedStores [.Tuple [.Name x px, .Name y py] kt pt] (.Tuple [a, b] k2 pt2) X.env = pure none := by rfl)
    (hs : swapsWithSole [.Tuple [.Name x px, .Name y py] kt pt] (.Tuple [a, b] k2 pt2) pos.line X.env = pure false := by rfl)
    (h1 : (assignEach [.Tuple [.Name x px, .Name y py] kt pt] X.env).map (·.2) = [assign (.Tuple [.Name x px, .Name y py] kt pt) X.env] := by rfl)
    (hst : (assignEach [.Name x px, .Name y py] X.env).findIdx? (·.1) = none := by rfl) (hn : (assignEach [.Name x px, .Name y py] X.env).length = 2 := by rfl)
    (e1 : (assignEach [.Name x px, .Name y py] X.env).map (·.2) = assign (.Name x px) X.env :: (assignEach [.Name y py] X.env).map (·.2) := by rfl)
    (e2 : (assignEach [.Name y py] X.env).map (·.2) = assign (.Name y py) X.env :: (assignEach [] X.env).map (·.2) := by rfl)
    (hs1 : starEach [a, b] X.env = (false, eval a X.env) :: starEach [b] X.env := by rfl) (hs2 : starEach [b] X.env = (false, eval b X.env) :: starEach [] X.env := by rfl) :
    DSt X dl W (.Assign [.Tuple [.Name x px, .Name y py] kt pt] (.Tuple [a, b] k2 pt2) pos) (sPar i j f g) := by
  refine PS.of (ps_asg (pe_tup (pa_cons ha (pa_cons hb pa_nil hs2) hs1)) (pg_tup (n := 2) hc (pgs_cons (pg_name hN hi hx hfx) (pgs_cons (pg_name hN hj hy hfy) pgs_nil e2) e1) hn hst) hs hw h1) fun E sg H q => ?_
  obtain ⟨F0, H0, F, G, s, w, S, g⟩ := q
  refine ⟨F, F0, H0, G, s, w, S, (g.ex S.st).imp fun a s1 F1 H1 st1 w1 g1 v rv => ?_⟩
  refine ⟨F1, F0, H0, G, s1, w1, S.step st1, ((g1.mono st1.fs).ex (S.step st1).st).imp fun b s2 F2 H2 st2 w2 g2 u ru => ?_⟩
  refine ⟨by rw [sizeLine_eq]; simp, fun p hp => ⟨p, [v, u], rfl, SqT.of upd_same, rfl, v, [u], rfl, u, [], rfl, rfl, ?_⟩⟩
  have st3 : Step dl F2 H2 F2 (upd H2 p (.tup [v, u])) := Step.newO hp
  exact g2 F2 _ _ st2.fs (w2.newO hp) (((S.putNew w st1 rv).putNew w1 st2 ru).step st3)
end
end
section
end
section
end
section
end
section
end
section
end
section
def sliceT (lo hi : Option Int) : D -> Option D
  | .str x => if x.length <= sizeLine then some (.str (cutS x lo hi)) else none
  | _ => none
def gSlT (f : SE) (lo hi : SO) : SE := fun G => bnd (f G) fun d => bnd (lo G) fun l => bnd (hi G) fun u => ofO (sliceT l u d)
section
variable {X : Cx} {dl : Dr X.w X.K X.mg} {W : WX}
theorem de_sliceT {e : Expr} {l u : Option Expr} {f : SE} {fl fu : SO} {p2 pos : Pos} (he : DE X dl W e f) (hl : DOp X dl W l fl) (hu : DOp X dl W u fu) : DE X dl W (.Subscript e (.Slice l u none p2) pos) (gSlT f fl fu) := by
  refine PE.of (pe_slice sl_str he hl hu) fun sg H Q q => ?_
  obtain ⟨F, q⟩ := q
  refine ⟨F, q.bnd.imp fun d F1 H1 ⟨st1, q1⟩ v rv => ⟨F1, q1.bnd.imp fun lo F2 H2 ⟨st2, q2⟩ => ⟨F2, q2.bnd.imp fun hi F3 H3 ⟨st3, q3⟩ => ?_⟩⟩⟩
  obtain ⟨r, s, e1, w, q4⟩ := q3.op
  have rv3 := Rep.mono (st2.trans st3).fs _ _ rv
  cases d with
  | str x =>
    have e1 : (if x.length <= sizeLine then some (D.str (cutS x lo hi)) else none) = some r := e1
    by_cases hx : x.length <= sizeLine
    · rw [if_pos hx] at e1
      cases e1
      cases (show v = .str x from rv3)
      exact ⟨x, rfl, hx, q4 F3 H3 Step.refl w _ rfl⟩
    · rw [if_neg hx] at e1
      cases e1
  | _ => cases e1
end
end
section
def T.kid : T -> Nat -> Option T
  | .lst ts, j => ts[j]?
  | .dct _ ts, j => ts[j]?
  | _, _ => none
def T.at : T -> List Nat -> Option T
  | t, [] => some t
  | t, j :: p => (t.kid j).bind fun c => c.at p
termination_by _ p => p.length
end
section
end
section
end
section
end
section
section
variable {X : Cx} {dl : Dr X.w X.K X.mg} {W : WX} {pos p : Pos} {e : Expr} {es : List Expr} {F0 H0 F H F1 H1 : Hp} {E : Ends}
theorem atI_ofNat {α : Type} {xs : List α} {j : Nat} (h : j < xs.length) : atI xs (Int.ofNat j) = some xs[j] := by
  unfold atI ixN
  rw [if_pos (by simp), if_pos (by simp; omega), Option.bind_some]
  simp [List.getElem?_eq_getElem h]
end
end
section
section
variable {X : Cx} {dl : Dr X.w X.K X.mg} {W : WX}
variable {p pf pos kpos : Pos} {fn x : Str} {e : Expr} {es : List Expr} {ra : SA} {k : Nat} {m : List D -> M D} {f : SE} {F0 H0 F H : Hp} {E : Ends}
def lstOf : D -> Option (List D)
  | .lst xs => some xs
  | _ => none
def sExt (i : Nat) (f : SE) : SS := fun G => match G[i]? with
  | some (some (.own ds)) => bnd (f G) fun d => bnd (ofO (lstOf d)) fun es => if ds.length + es.length <= sizeLine then ret (.next (G.set i (some (.own (ds ++ es))))) else fail
  | _ => fail
theorem ds_extend (i : Nat) {x : Str} {p ap cp : Pos} (he : DE X dl W e f) (hN : X.N[i]? = some x := by rfl) (hv : Vis X.env.scope x := by first | exact Or.inl rfl | exact Or.inr (Or.inl rfl) | exact Or.inr (Or.inr rfl))
    (hd : (x == ("__debug__" : Str)) = false := by decide) (hcd : (x == ("__classdict__" : Str)) = false := by decide)
    (hbase : attributeBase (.Name x p) "extend" X.env (eval (.Name x p) X.env) = eval (.Name x p) X.env := by rfl)
    (hfew : ((backTo cp (starEach [e] X.env)).all (fun x => !x.1) && (backToKw cp (keywordEach [] X.env)).all (fun x => x.1.isSome)
      && decide (([e] : List Expr).length + ([] : List Keyword).length + (if ([] : List Keyword).isEmpty then 0 else 1) < 30)) = true := by rfl)
    (hline : (ap.endLine == cp.line) = true := by rfl) (hse : starEach [e] X.env = (false, eval e X.env) :: starEach [] X.env := by rfl)
    (hs : swapsWith (.Call (.Attribute (.Name x p) "extend" ap) [e] [] cp) none pos.line X.env = pure false := by rfl) :
    DSt X dl W (.Expr (.Call (.Attribute (.Name x p) "extend" ap) [e] [] cp) pos) (sExt i f) := by
  refine PS.of (ps_expr (pe_bm PySem.F.plainAttrs_list PySem.F.slot_list_extend PySem.F.type_list_extend mt_extend (pe_var hN hv hd hcd) (pa_cons he pa_nil hse) hbase hfew hline hse rfl) hs) fun E sg H q => ?_
  obtain ⟨F0, H0, F, G, s, w, S, g⟩ := q
  cases ei : G[i]? with
  | none => simp only [sExt, ei] at g; exact g.elim
  | some o =>
    cases o with
    | none => simp only [sExt, ei] at g; exact g.elim
    | some sl =>
      cases sl with
      | own ds =>
        simp only [sExt, ei] at g
        obtain ⟨v, k1, a, vs, rfl, m2, m3, m4, m5, m6, m7⟩ := S.sl i _ ei
        refine ⟨.ref a, k1, .inl ⟨rfl, _, SqL.of m2⟩, F, F0, H0, G, s, w, S, (g.ex (sg := sg) S.st).imp fun d s1 F1 H1 st1 w1 g1 v rv => ?_⟩
        have S1 := S.step st1
        obtain ⟨v', k1', b, us, eb, n2, n3, n4, n5, n6, n7⟩ := S1.sl i _ ei
        rw [k1] at k1'
        cases k1'
        cases eb
        obtain ⟨es, ee, g2⟩ := g1.ofO
        cases d with
        | lst xs =>
          cases ee
          obtain ⟨b, ws, rfl, r2, r3, r4⟩ := rv
          by_cases hl : ds.length + es.length <= sizeLine
          · rw [if_pos hl] at g2
            rw [n7.length, r4.length] at hl
            refine ⟨a, b, us, ws, rfl, rfl, n2, w1.sub _ _ r2, hl, ?_⟩
            exact g2 F1 _ sg st1.fs (w1.setO n3 n5) (S1.setOwn ei k1 (by rw [List.length_append]; exact hl) (n7.append r4))
          · rw [if_neg hl] at g2
            exact g2.elim
        | _ => cases ee
      | _ => simp only [sExt, ei] at g; exact g.elim
end
end
section
end
section
section
variable {X : Cx} {dl : Dr X.w X.K X.mg} {W : WX} {e : Expr}
theorem Sim.frzE {F0 H0 F H : Hp} {sg : L2.St} {G : Sls} {s : DS} {i : Nat} {ds : List D} (w : Wd dl F H s) (S : Sim X.K X.mg dl F0 H0 F H sg G) (e1 : G[i]? = some (some (.own ds))) :
    ∃ a vs, F a = none /\ ¬ dl.has a /\ Wd dl (upd F a (.lst vs)) H s /\ Sim X.K X.mg dl F0 H0 (upd F a (.lst vs)) H sg (EK.frz i G) := by
  obtain ⟨v, h1, a, vs, rfl, h3, h4, h5, h6, h7, h8⟩ := S.sl i _ e1
  have sm : Same F (upd F a (.lst vs)) := Same.updN h4
  refine ⟨a, vs, h4, h6, w.freeze h3 h4 h6, ?_⟩
  simp only [EK.frz, e1]
  have other : ∀ (j : Nat) (t : Sl), i ≠ j -> G[j]? = some (some t) -> ∃ u, sg[j]? = some (some u) /\ SlOk X.K X.mg dl H0 (upd F a (.lst vs)) H t u := fun j t hij ej => by
    obtain ⟨u, k1, k2⟩ := S.sl j t ej
    refine ⟨u, k1, ?_⟩
    have nea : ∀ b, t.isOwn = true -> (u = .ref b -> b ≠ a) := fun b ho eu z => by
      subst z; subst eu
      exact hij (S.dis i j _ t e1 ej rfl ho (h1.trans k1.symm))
    cases t with
    | fz d => exact Rep.mono sm d u k2
    | own es =>
      obtain ⟨b, us, rfl, m2, m3, m4, m5, m6, m7⟩ := k2
      exact ⟨b, us, rfl, m2, by rw [upd_ne (nea b rfl rfl)]; exact m3, m4, m5, m6, RepL.mono sm _ _ m7⟩
    | ini c ns es =>
      obtain ⟨b, dx, C, us, rfl, m2, m3, m4, m5, m6, m7, m8, m9, m10, m11, m12, m13⟩ := k2
      refine ⟨b, dx, C, us, rfl, m2, m3, m4, by rw [upd_ne (nea b rfl rfl)]; exact m5, ?_, m7, m8, m9, m10, m11, m12, RepL.mono sm _ _ m13⟩
      rw [upd_ne (fun z => by rw [z, h3] at m4; cases m4)]; exact m6
    | ownX kk es =>
      obtain ⟨b, us, rfl, m2, m3, m4, m5, m6, m7, m8⟩ := k2
      exact ⟨b, us, rfl, m2, by rw [upd_ne (nea b rfl rfl)]; exact m3, m4, m5, m6, m7, RepL.mono sm _ _ m8⟩
    | ownP pp kk es =>
      obtain ⟨b, us, rfl, m2, m3, m4, m5, m6, m7, m8⟩ := k2
      exact ⟨b, us, rfl, m2, by rw [upd_ne (nea b rfl rfl)]; exact m3, m4, m5, m6, m7, RepL.mono sm _ _ m8⟩
    | tree _ => trivial
  have hil : i < G.length := by
    by_cases q : i < G.length
    · exact q
    · rw [List.getElem?_eq_none (by omega)] at e1; cases e1
  refine ⟨by rw [List.length_set]; exact S.len, fun j t ej => ?_, fun j k t u ej ek o1 o2 e3 => ?_, ⟨fun b o e => sm b o (S.st.fs b o e), S.st.hs, fun b o e => ?_, S.st.al⟩, S.tr.at e1 rfl (fun _ z => nomatch z) h1 sm (fun _ _ => rfl) (fun b hb => upd_ne hb)⟩
  · by_cases hij : i = j
    · subst hij
      rw [List.getElem?_set_self hil] at ej
      cases ej
      exact ⟨.ref a, h1, a, vs, rfl, upd_same, h7, RepL.mono sm _ _ h8⟩
    · rw [List.getElem?_set_ne hij] at ej
      exact other j t hij ej
  · have nz : ∀ m (t : Sl), (G.set i (some (.fz (.lst ds))))[m]? = some (some t) -> t.isOwn = true -> i ≠ m := fun m t e o z => by
      subst z
      rw [List.getElem?_set_self hil] at e; cases e; cases o
    have z1 := nz j t ej o1
    have z2 := nz k u ek o2
    rw [List.getElem?_set_ne z1] at ej
    rw [List.getElem?_set_ne z2] at ek
    exact S.dis j k t u ej ek o1 o2 e3
  · by_cases z : b = a
    · subst z; exact .inr h5
    · rw [upd_ne z] at e; exact S.st.nw b o e
def lendO (i : Nat) (f : SE) : SE := fun G => match G[i]? with
  | some (some (.own _)) => noErrK (bnd (f (frz i G)) fun d => if flatD d = true then ret d else fail)
  | _ => fail
theorem de_lendO (i : Nat) {f : SE} (h : DE X dl.dim W e f) : DE X dl W e (lendO i f) := by
  refine PE.of h fun sg H Q q => ?_
  obtain ⟨F, F0, H0, G, s, w, S, g⟩ := q
  unfold lendO at g
  cases e1 : G[i]? with
  | none => simp only [e1] at g; exact g.elim
  | some o =>
    cases o with
    | none => simp only [e1] at g; exact g.elim
    | some sl =>
      cases sl with
      | own ds =>
        simp only [e1] at g
        obtain ⟨a, vs, n1, nd, w1, S1⟩ := S.frzE w e1
        refine ⟨_, fun _ => none, fun _ => none, _, { s with live := false }, w1.dim, S1.dim, ?_⟩
        unfold noErrK EK.bnd at g
        cases eu : f (EK.frz i G) { s with live := false } with
        | none => simp only [eu] at g; exact g.elim
        | some pr =>
          obtain ⟨r, s'⟩ := pr
          cases r with
          | err x => simp only [eu] at g; exact g.elim
          | ok d =>
            simp only [eu] at g
            by_cases fl : flatD d = true
            case neg => rw [if_neg fl] at g; exact g.elim
            rw [if_pos fl] at g
            intro F' H' st w' v r'
            obtain ⟨st2, w2⟩ := lent nd n1 (fun c q z => by unfold LamX.CodeO at z; cases z) w st w'
            exact g _ H' st2 w2 v (flatD_rep fl r'.undim)
      | _ => simp only [e1] at g; exact g.elim
end
end
section
section
variable {P : Program} {w : World}
abbrev NoCls (P : Program) (w : World) (n : Nat) (v : Value) (s : Shared) : Prop := ∀ (A : Around) (E : Value -> Shared -> Prop) (Q : Bool -> Shared -> Prop), Q false s -> wpAny (model P w) A (ofAClassStatement n v) Q E s
abbrev SomeVal (P : Program) (w : World) (n : Nat) (v : Value) (s : Shared) : Prop := ∀ (A : Around) (E : Value -> Shared -> Prop) (Q : Bool -> Shared -> Prop), (∀ b, Q b s) -> wpAny (model P w) A (hashByValue n v) Q E s
end
end
section
section
variable {P : Program} {w : World} {κ : Type} [DecidableEq κ]
structure InSets (knd : HeapKind P w κ) : Prop where
  st : knd.Stays
  cls : ∀ {s : Shared} {k : κ} {a : Addr}, knd.is s.heap k a -> NoCls P w 8 (.ref a) s
  val : ∀ {s : Shared} {k : κ} {a : Addr}, knd.is s.heap k a -> SomeVal P w 8 (.ref a) s
variable {knd : HeapKind P w κ} (I : InSets knd) {A : Around} {E : Value -> Shared -> Prop} {s : Shared}
include I
omit I
variable (knd) in
def rowsK (L : List (Addr × κ)) : List (Int × Value) := L.map fun p => (knd.hash p.2, Value.ref p.1)
variable (knd) in
structure TSet (h : Heap) (a : Addr) (L : List (Addr × κ)) (es : Array (Int × Value)) (ep : Nat) (t : SetTable) : Prop where
  ob : ∃ o, h.get? a = some o /\ o.ExactSet /\ o.data = .set es ep t
  rw_ : es.toList = rowsK knd L
  tab : TabOk t (L.map fun p => knd.hash p.2)
  nd : (L.map (·.2)).Nodup
  el : ∀ p ∈ L, knd.is h p.2 p.1
  led : w.params.followText "set-order" = true \/ t.led = true
  room : L.length * 5 < t.mask * 3
  few : L.length < 64
end
end
section
section
variable {P : Program} {w : World} {κ : Type} [DecidableEq κ] {knd : HeapKind P w κ} (I : InSets knd) {A : Around} {E : Value -> Shared -> Prop} {s : Shared}
theorem TSet.keep {h h' : Heap} {a : Addr} {L : List (Addr × κ)} {es : Array (Int × Value)} {ep : Nat} {t : SetTable} (R : TSet knd h a L es ep t) (ha : ∀ o, h.get? a = some o -> h'.get? a = some o) (ht : ∀ p ∈ L, knd.is h' p.2 p.1) : TSet knd h' a L es ep t := by
  obtain ⟨o, ho, r⟩ := R.ob
  exact ⟨⟨o, ha o ho, r⟩, R.rw_, R.tab, R.nd, ht, R.led, R.room, R.few⟩
end
end
section
end
section
end
section
end
section
end
section
end
section
end
section
end
section
end
section
section
variable {X : Cx} {dl : Dr X.w X.K X.mg} {W : WX} {pos p apos cpos : Pos} {e a : Expr} {f fa : SE}
def tupR : D -> Option D
  | .int n => if -1000000 <= n /\ n < 1000000 then some (.tup (upFrom 0 n.toNat)) else none
  | _ => none
theorem de_tupRng1 {p pr q1 : Pos} (hc : X.calm = true) (hg : Gl X "tuple") (hm : X.mg "tuple" = none) (hg' : Gl X "range") (hm' : X.mg "range" = none) (ha : DE X dl W a fa)
    (na : starEach [a] X.env = (false, eval a X.env) :: starEach [] X.env := by rfl)
    (nb : starEach [.Call (.Name "range" pr) [a] [] q1] X.env = (false, eval (.Call (.Name "range" pr) [a] [] q1) X.env) :: starEach [] X.env := by rfl) :
    DE X dl W (.Call (.Name "tuple" p) [.Call (.Name "range" pr) [a] [] q1] [] pos) (g1 tupR fa) := by
  refine PE.of (pe_tupRg hc hg hm (prg_1 hg' hm' ha na) nb) fun sg H Q q => ?_
  obtain ⟨F, F0, H0, G, s, w, S, g⟩ := q
  refine ⟨F, F0, H0, G, s, w, S, ?_⟩
  refine g.bnd.imp fun x s1 F1 H1 st1 w1 g1 v rv => ?_
  obtain ⟨y, e1, g3⟩ := g1.ofO
  cases x with
  | int n =>
    have e1 : (if -1000000 <= n /\ n < 1000000 then some (D.tup (upFrom 0 n.toNat)) else none) = some y := e1
    split at e1
    · rename_i hz
      cases e1
      have rv : v = .int n := rv
      have r := reps_up (dl := dl) (K := X.K) (mg := X.mg) (F := F1) 0 n
      rw [Int.sub_zero] at r
      refine ⟨n, rv, ⟨by omega, by omega, by omega, by omega, by omega⟩, fun q hq => g3 _ _ (Step.new w1 hq) (w1.new hq) _ ⟨q, _, rfl, SqT.of upd_same, ?_, RepL.mono (Step.new w1 hq).fs _ _ r⟩⟩
      rw [<- r.length, upFrom_length, sizeLine_eq]; omega
    · cases e1
  | _ => cases e1
def rValsZ : V -> Hp -> VK -> Prop := fun x H Q => ∃ (d : Addr) (o : Obj) (kvs : List (Key × V)), x = .ref d /\ H d = some (.frz o (.dK kvs)) /\ ∀ q, H q = none -> Q (.ref q) (upd H q (.lst (kvs.map (·.2))))
theorem kv_vals : ∀ {kvs : List (Key × V)} {vs : List (Key × Value)}, KV kvs vs -> ∀ (j : Nat) (k : Key) (u : Value), vs[j]? = some (k, u) -> ∃ x, (kvs.map (·.2))[j]? = some x /\ L2.RelV x u
  | kvs, vs, h, j, k, u, e => by
    have l := Paired.length h
    have hj := (List.getElem?_eq_some_iff.mp e).1
    have hk : kvs[j]? = some (kvs[j]'(by omega)) := List.getElem?_eq_getElem (by omega)
    obtain ⟨y, g1, g2⟩ := LiI.paired_get h hk
    rw [e] at g1
    cases g1
    exact ⟨_, by rw [List.getElem?_map, hk]; rfl, g2.2⟩
theorem pe_valsZ {te : TE} (hc : X.calm = true) (he : PE X e te) (hg : Gl X "list") (hm : X.mg "list" = none) (hbase : attributeBase e "values" X.env (eval e X.env) = eval e X.env := by rfl) (hline : (apos.endLine == cpos.line) = true := by rfl)
    (hs : starEach [.Call (.Attribute e "values" apos) [] [] cpos] X.env = (false, eval (.Call (.Attribute e "values" apos) [] [] cpos) X.env) :: starEach [] X.env := by rfl) :
    PE X (.Call (.Name "list" p) [.Call (.Attribute e "values" apos) [] [] cpos] [] pos) (fun σ H Q => te σ H fun x H1 => rValsZ x H1 Q) := by
  refine ⟨fun pins s σ H Q I hq => ?_⟩
  refine wpAny_Call_Name_kw (ld_blt I hg hm bb_list ?_)
  refine PyProof.Rows.callWith_type1 ?_ hs rfl
  rw [hs]
  show wpAny _ _ (spliced ((false, eval (.Call (.Attribute e "values" apos) [] [] cpos) X.env) :: backTo pos (starEach [] X.env))) _ _ s
  refine Calls.spliced_cons ?_
  refine wpAny_Call_method (T := "dict") (id := "dict.values") hbase rfl hline F.plainAttrs_dict F.slot_dict_values F.type_dict_values (thn (he.run pins s σ H _ I hq) fun u s1 ⟨x, H1, I1, rx, d, o, kvs, ex, hd, q⟩ => ?_)
  subst ex
  obtain rfl : u = Value.ref d := rx
  obtain ⟨_, hz, hs0, vs, kv, hdo⟩ := I1.hok d _ hd
  obtain ⟨ep, hat⟩ := hdo.dictAt
  have lk : kvs.length = vs.length := Paired.length kv
  have I2 : Inv X pins σ H1 { s1 with heap := s1.heap.push { cls := .type "dict_values", data := .fields #[.ref d] } } := I1.kept (t' := s1.toks) fun b ob q => Heap.get?_push_of_some _ q
  refine ⟨hdo.typeIs, hdo.mapOf.noDict, ?_⟩
  show wpAny _ _ (callWith cpos (.builtin "dict.values") [.ref d] [] []) _ X.xe s1
  refine method_meetsIn F.slot_dict_values F.entry_dict_values rfl (PySem.evalArgs_none ⟨rfl, hdo.typeIs, F.args_dict_values_1 _, _, meets_dict_values (mixKind X.prog X.w) d hs0, ⟨vs, hdo⟩, ?_⟩)
  refine Calls.spliced_nil ?_
  refine PySem.W.kdl_call (PySem.W.kdl_values (knd := mixKind X.prog X.w) (kvs := vs) (ep := ep)) (I1.ok.hd hc) ⟨⟨_, Heap.get?_push_size _ rfl, rfl, rfl⟩, hat.push _⟩ (by omega) fun h' tk acc c hk hS hacc => ?_
  refine ⟨.ref _, _, I2.laid hk (Nat.le_refl _) (show ObjOk X.prog X.w _ _ _ (.lst (kvs.map (·.2))) from ⟨?_, acc.toList, c, ?_, ?_⟩), rfl, q _ (I2.hok.fresh (Nat.le_refl _))⟩
  · rw [List.length_map]; exact hz
  · have el : acc.toList.length = acc.size := by simp
    refine vals_of_at (by rw [List.length_map, el, hacc.1, lk]) fun j x w h1 h2 => ?_
    obtain ⟨k, hky⟩ := hacc.2 j w (by rw [<- Array.getElem?_toList]; exact h2)
    obtain ⟨y, g1, g2⟩ := kv_vals kv j k w hky
    rw [g1] at h1
    cases h1
    exact g2
  · rw [Array.toArray_toList]; exact hS
def valsDD : D -> Option (List D)
  | .dct _ xs => some xs
  | _ => none
def gValsO (f : SE) : SA := fun G => bnd (f G) fun d => ofO (valsDD d)
theorem zip_snds {α β : Type} : ∀ (ks : List α) (vs : List β), ks.length = vs.length -> (ks.zip vs).map (·.2) = vs
  | [], [], _ => rfl
  | [], _ :: _, h => by cases h
  | _ :: _, [], h => by cases h
  | k :: ks, v :: vs, h => by rw [List.zip_cons_cons, List.map_cons, zip_snds ks vs (Nat.succ.inj h)]
theorem deo_vals (hc : X.calm = true) (he : DE X dl W e f) (hg : Gl X "list") (hm : X.mg "list" = none) (hbase : attributeBase e "values" X.env (eval e X.env) = eval e X.env := by rfl) (hline : (apos.endLine == cpos.line) = true := by rfl)
    (hs : starEach [.Call (.Attribute e "values" apos) [] [] cpos] X.env = (false, eval (.Call (.Attribute e "values" apos) [] [] cpos) X.env) :: starEach [] X.env := by rfl) :
    DEO X dl W (.Call (.Name "list" p) [.Call (.Attribute e "values" apos) [] [] cpos] [] pos) (gValsO f) := by
  refine PE.of (pe_valsZ hc he hg hm hbase hline hs) fun sg H Q q => ?_
  obtain ⟨F, F0, H0, G, s, w, S, g⟩ := q
  refine ⟨F, F0, H0, G, s, w, S, g.bnd.imp fun x s1 F1 H1 st1 w1 g1 v rv => ?_⟩
  obtain ⟨xs, e1, g3⟩ := g1.ofO
  cases x with
  | dct ks ys =>
    cases e1
    obtain ⟨a, o, vs, rfl, h1, h2, h3, h4⟩ := rv
    refine ⟨a, o, _, rfl, w1.sub _ _ h1, fun q hq => ?_⟩
    rw [zip_snds ks vs h2]
    refine g3 _ _ (Step.newO hq) (w1.newO hq) q ⟨st1.al q hq, w1.fnone hq, _, upd_same, ?_, h4⟩
    rw [sizeLine_eq]
    omega
  | _ => cases e1
end
end
section
section
variable {X : Cx}
theorem ps_setDcL {i : Nat} {y : Str} {py : Pos} {kx vx tg iter : Expr} {ifs : List Expr} {scope : Scope} {own : List (Str × Nat)} {pos spos : Pos} {wi : TI} {g : TG} {tt : TT} {tk tv : TE} (hc : X.calm = true) (hN : X.N.Nodup) (hy : X.N[i]? = some y) (hyl : X.env.scope.names.lookup y = some .local)
    (hsw : swapsWith (.DictComp kx vx [⟨tg, iter, ifs, 0⟩] scope pos) (some (.Name y py)) spos.line X.env = pure true) (hi : PI X tg iter wi) (ok : BlkOk X.N X.env.scope scope own)
    (hg : ∀ (s : Shared) (H : Hp) (C : Addr) (cl : List (Str × Addr)) (fp : List Addr), PG (X.blk s H scope (compEnvC scope cl C X.env) fp) tg g) (ht : ∀ (s : Shared) (H : Hp) (C : Addr) (cl : List (Str × Addr)) (fp : List Addr), PTs (X.blk s H scope (compEnvC scope cl C X.env) fp) ifs tt)
    (hk : ∀ (s : Shared) (H : Hp) (C : Addr) (cl : List (Str × Addr)) (fp : List Addr), PE (X.blk s H scope (compEnvC scope cl C X.env) fp) kx tk)
    (he : ∀ (s : Shared) (H : Hp) (C : Addr) (cl : List (Str × Addr)) (fp : List Addr), PE (X.blk s H scope (compEnvC scope cl C X.env) fp) vx tv) (hs : ∀ x, foldedSetIterable iter X.env x = pure x := by intro _; rfl) :
    PS X (.Assign [.Name y py] (.DictComp kx vx [⟨tg, iter, ifs, 0⟩] scope pos) spos) (tAsg (fun sg H Q => tDc wi g tt tk tv (own.map (·.2)) sg H fun v H1 => ∃ d u, v = .ref d /\ H1 d = some u /\ Mut (some u) /\ ∀ od, Q v (upd H1 d (.frz od u))) (gName i)) := by
  refine ⟨fun pins s σ H D I h => ?_⟩
  rw [exec_Assign_Name_used _ _ _ _ hsw]
  refine wpAny_bind (wpAny_standAt (wpAny_bind ?_))
  show wpAny _ X.A (do let _ <- comprehension (.DictComp kx vx [⟨tg, iter, ifs, 0⟩] scope pos) scope X.env (firstIterPos [⟨tg, iter, ifs, 0⟩] pos) newDict false (eval iter X.env) (some (assign (.Name y py) X.env))) _ _ s
  have h : tDc wi g tt tk tv (own.map (·.2)) σ H (fun v H1 => ∃ d u, v = .ref d /\ H1 d = some u /\ Mut (some u) /\ ∀ od, gName i v σ (upd H1 d (.frz od u)) D.nx) := h
  refine wpAny_bind (thn (dc_core (Qf := fun _ s' => SP X pins D .next s') hc hN I hi ok hg ht hk he hs h fun L C s' m H' I' q hn f => ?_) fun _ s' hq => wpAny_pure (wpAny_pure hq))
  show wpAny _ _ (assign (.Name y py) X.env (.ref L)) _ _ _
  obtain ⟨d, u, e1, e2, mu, q⟩ := q
  obtain ⟨od, I''⟩ := I'.lock e2 mu
  have q := q od
  refine wpAny_assign_Name (store_ok2 (v := V.ref L) I'' hN hy (.inl hyl) rfl (fun s2 I2 ⟨a, sb, ha⟩ => ?_) (.inr hyl))
  obtain ⟨f0, f1, f2, f3, f4, f5⟩ := f
  have haC : C ≠ a := by
    rcases ha with z | z
    · rw [z]; exact f1
    · exact fun e => f4 y a z e.symm
  have f0' : upd H' d (.frz od u) C = none := by
    rw [upd_ne (fun z => by rw [z, e2] at f0; cases f0)]; exact f0
  refine ⟨m, hn.sameBut sb haC, fun h3 sb3 => ?_⟩
  exact ⟨_, _, I2.turned (t' := s2.toks) (fun b o hb e => (sb3.2 b hb).trans e) f0' f1 f3 f4 f5, q⟩
theorem sw_trueD {kx vx : Expr} {gs : List Comprehension} {scope : Scope} {pos py : Pos} {y : Str} {l : Nat} {env : Env} (hk : env.scope.kind = .function) (hy : env.scope.names.lookup y = some .local) (hl : (py.line == pos.line) = true)
    (ha : (scope.names.any fun (n, k) => n == y && (k == .local || k == .cell)) = false) : swapsWith (.DictComp kx vx gs scope pos) (some (.Name y py)) l env = pure true := by
  have ky : env.kindOf y = some .local := hy
  have hb : env.blockKind = .function := by unfold Env.blockKind; rw [hk]; rfl
  unfold swapsWith
  simp only [hb, ky, ha, Expr.pos, hl]
  rfl
variable {dl : Dr X.w X.K X.mg} {W : WX}
theorem dc_lock_rd {own : List (Str × Nat)} {it : SA} {is : List Nat} {f : SG} {u : ST} {hk hvv : SE} (hv : ∀ i ∈ is, i ∈ own.map (·.2)) {sg : L2.St} {H : Hp} {Q : VK} (q : tD X dl W (gDc (own.map (·.2)) it f u hk hvv) sg H Q) :
    tDc (tIm X dl W it) (gD X dl is f) (tDT X dl WF u) (tD X dl WF hk) (tD X dl WF hvv) (own.map (·.2)) sg H fun v H1 => ∃ d u, v = .ref d /\ H1 d = some u /\ Mut (some u) /\ ∀ od, Q v (upd H1 d (.frz od u)) := by
  refine dcR hv ?_
  obtain ⟨F, F0, H0, G, s, w, S, g⟩ := q
  refine ⟨F, F0, H0, G, s, w, S, Go.imp (Go.at Step.refl g) fun kvs s1 F1 H1 st1 w1 g1 a na => ?_⟩
  obtain ⟨n1, n2, vs, h1, h2, h3⟩ := na
  obtain ⟨d, e, g2⟩ := g1.ofO
  refine ⟨a, _, rfl, h1, trivial, fun od => ?_⟩
  unfold dictOf at e
  split at e
  · rename_i hcnd
    cases e
    have hl : (kvs.map (·.1)).length = vs.length := by rw [List.length_map]; exact h2
    have nd := nodupK_iff.mp hcnd.2
    have hz : ((kvs.map (·.1)).zip vs).map (·.1) = kvs.map (·.1) := by rw [List.map_fst_zip]; omega
    rw [mergeK_new _ [] (by rw [List.nil_append, hz]; exact nd), List.nil_append]
    have stx := Step.lockD (o := .frz od (.dK ((kvs.map (·.1)).zip vs))) st1 n1 n2
    have wx := Wd.lockD (o := .frz od (.dK ((kvs.map (·.1)).zip vs))) w1 (w.na n1) n2
    refine g2 _ _ stx wx (.ref a) ⟨a, od, vs, rfl, upd_same, hl, ⟨by rw [List.length_map]; exact hcnd.1, nd⟩, RepL.mono (fun b u e => ?_) _ _ h3⟩
    rw [upd_ne (ne_of_none e n2)]; exact e
  · cases e
theorem ds_dc (i : Nat) {y : Str} {py : Pos} {kx vx tg iter : Expr} {ifs : List Expr} {scope : Scope} {own : List (Str × Nat)} {pos spos : Pos} {it : SA} {is : List Nat} {f : SG} {u : ST} {hk hvv : SE} (hc : X.calm = true) (hN : X.N.Nodup) (hy : X.N[i]? = some y) (hyl : X.env.scope.names.lookup y = some .local)
    (hsw : swapsWith (.DictComp kx vx [⟨tg, iter, ifs, 0⟩] scope pos) (some (.Name y py)) spos.line X.env = pure true) (hi : DIm X dl W tg iter it) (ok : BlkOk X.N X.env.scope scope own) (hv : ∀ i ∈ is, i ∈ own.map (·.2))
    (hg : ∀ (s : Shared) (H : Hp) (C : Addr) (cl : List (Str × Addr)) (fp : List Addr), DG (X.blk s H scope (compEnvC scope cl C X.env) fp) dl tg is f)
    (ht : ∀ (s : Shared) (H : Hp) (C : Addr) (cl : List (Str × Addr)) (fp : List Addr), PTs (X.blk s H scope (compEnvC scope cl C X.env) fp) ifs (tDT (X.blk s H scope (compEnvC scope cl C X.env) fp) dl WF u))
    (hk' : ∀ (s : Shared) (H : Hp) (C : Addr) (cl : List (Str × Addr)) (fp : List Addr), DE (X.blk s H scope (compEnvC scope cl C X.env) fp) dl WF kx hk)
    (hv' : ∀ (s : Shared) (H : Hp) (C : Addr) (cl : List (Str × Addr)) (fp : List Addr), DE (X.blk s H scope (compEnvC scope cl C X.env) fp) dl WF vx hvv) (hs : ∀ x, foldedSetIterable iter X.env x = pure x := by intro _; rfl) :
    DSt X dl W (.Assign [.Name y py] (.DictComp kx vx [⟨tg, iter, ifs, 0⟩] scope pos) spos) (sAsg (gDc (own.map (·.2)) it f u hk hvv) (sgN i)) :=
  PS.of (ps_setDcL (tt := tDT X dl WF u) (tk := tD X dl WF hk) (tv := tD X dl WF hvv) (g := gD X dl is f) (i := i) hc hN hy hyl hsw hi ok hg ht hk' hv' hs) fun _ _ _ q => dc_lock_rd hv (set_rd q)
end
end
section
end
section
end
section
end
section
end
section
end
section
end
section
end
end EK
namespace EK
open PySem PySem.Spec PySem.Calls PyProof.Rows PyProof.V PySem.W
section
def ZlSt (h : Heap) (z ti to ja jb la lb S : Addr) (xs ys : Array Value) (i : Nat) : Prop :=
  IsPair h ti (.ref ja) (.ref jb) /\ h.IsListIter ja la i /\ h.IsListIter jb lb i /\ h.IsList la xs /\ h.IsList lb ys /\
    ((IsZip h z ti to .none /\ ∃ a b, IsPair h to a b) \/ ∃ T f oT, IsZipHeld h z ti to T f /\ h.get? T = some oT /\ T ≠ z /\ T ≠ ja /\ T ≠ jb /\ T ≠ S)
structure ZlAp (z ti to ja jb la lb S : Addr) : Prop where
  D : ZipApart z ti to ja jb la lb
  zS : z < S
  tiS : ti < S
  toS : to < S
  jaS : ja < S
  jbS : jb < S
  laS : la < S
  lbS : lb < S
theorem ZlSt.keep {h h' : Heap} {z ti to ja jb la lb S : Addr} {xs ys : Array Value} {i : Nat} (P : ZlAp z ti to ja jb la lb S) (st : ZlSt h z ti to ja jb la lb S xs ys i) (hk : ∀ b o, b ≠ S -> h.get? b = some o -> h'.get? b = some o) : ZlSt h' z ti to ja jb la lb S xs ys i := by
  obtain ⟨hTI, h1, h2, hl1, hl2, hz⟩ := st
  refine ⟨hk _ _ (Nat.ne_of_lt P.tiS) hTI, h1.at fun o e => hk _ o (Nat.ne_of_lt P.jaS) e, h2.at fun o e => hk _ o (Nat.ne_of_lt P.jbS) e, hl1.at fun o e => hk _ o (Nat.ne_of_lt P.laS) e, hl2.at fun o e => hk _ o (Nat.ne_of_lt P.lbS) e, ?_⟩
  rcases hz with ⟨hz, a, b, hTO⟩ | ⟨T, f, oT, hz, hT, r1, r2, r3, r4⟩
  · exact .inl ⟨hk _ _ (Nat.ne_of_lt P.zS) hz, a, b, hk _ _ (Nat.ne_of_lt P.toS) hTO⟩
  · exact .inr ⟨T, f, oT, hk _ _ (Nat.ne_of_lt P.zS) hz, hk _ _ r4 hT, r1, r2, r3, r4⟩
end
end EK
namespace EK
open PySem PySem.Spec PyProof.Rows L2
section
end
section
end
section
end
section
end
section
end
section
end
section
end
section
end
section
end
section
end
section
end
section
end
section
end
section
end
end EK
namespace EK
open PySem PySem.HandSPX Builtin Builtin.ObjectAttr
section
end
end EK
namespace EK
open PySem PySem.Spec PyProof.Rows L2
section
end
section
end
section
end
section
end
section
end
section
end
end EK
set_option maxHeartbeats 2000000
namespace EK
open PySem PySem.Spec PyProof.Rows L2
section
end
section
end
section
end
section
mutual
def clF (ok : Nat -> Bool) : D -> Bool
  | .mob _ _ i => ok i
  | .tup xs => clFs ok xs
  | .lst xs => clFs ok xs
  | .obj _ _ xs => clFs ok xs
  | .dct _ xs => clFs ok xs
  | .dcT _ xs => clFs ok xs
  | .dcN ks xs => clFs ok ks && clFs ok xs
  | .exc _ _ xs => clFs ok xs
  | .ptp xs => clFs ok xs
  | .non => true
  | .bl _ => true
  | .int _ => true
  | .str _ => true
  | .drw => true
  | .scr _ => true
  | .exm _ _ => true
def clFs (ok : Nat -> Bool) : List D -> Bool
  | [] => true
  | d :: ds => clF ok d && clFs ok ds
end
mutual
theorem clF_true : ∀ d : D, clF (fun _ => true) d = true
  | .mob _ _ _ => rfl
  | .tup xs => by rw [clF]; exact clFs_true xs
  | .lst xs => by rw [clF]; exact clFs_true xs
  | .obj _ _ xs => by rw [clF]; exact clFs_true xs
  | .dct _ xs => by rw [clF]; exact clFs_true xs
  | .dcT _ xs => by rw [clF]; exact clFs_true xs
  | .dcN ks xs => by rw [clF, clFs_true ks, clFs_true xs]; rfl
  | .exc _ _ xs => by rw [clF]; exact clFs_true xs
  | .ptp xs => by rw [clF]; exact clFs_true xs
  | .non => rfl
  | .bl _ => rfl
  | .int _ => rfl
  | .str _ => rfl
  | .drw => rfl
  | .scr _ => rfl
  | .exm _ _ => rfl
theorem clFs_true : ∀ ds : List D, clFs (fun _ => true) ds = true
  | [] => rfl
  | d :: ds => by rw [clFs, clF_true d, clFs_true ds]; rfl
end
mutual
def clT (ok : Nat -> Bool) : T -> Bool
  | .fz d => clF ok d
  | .lst ts => clTs ok ts
  | .dct _ ts => clTs ok ts
def clTs (ok : Nat -> Bool) : List T -> Bool
  | [] => true
  | t :: ts => clT ok t && clTs ok ts
end
mutual
theorem clT_true : ∀ t : T, clT (fun _ => true) t = true
  | .fz d => by rw [clT]; exact clF_true d
  | .lst ts => by rw [clT]; exact clTs_true ts
  | .dct _ ts => by rw [clT]; exact clTs_true ts
theorem clTs_true : ∀ ts : List T, clTs (fun _ => true) ts = true
  | [] => rfl
  | t :: ts => by rw [clTs, clT_true t, clTs_true ts]; rfl
end
def clS (ok : Nat -> Bool) : Sl -> Bool
  | .fz d => clF ok d
  | .own ds => clFs ok ds
  | .ini _ _ ds => clFs ok ds
  | .ownX _ ds => clFs ok ds
  | .tree t => clT ok t
  | .ownP i _ ds => ok i && clFs ok ds
theorem clS_true (s : Sl) : clS (fun _ => true) s = true := by
  cases s with
  | fz d => exact clF_true d
  | own ds => exact clFs_true ds
  | ini _ _ ds => exact clFs_true ds
  | ownX _ ds => exact clFs_true ds
  | tree t => exact clT_true t
  | ownP i _ ds => exact clFs_true ds
section
variable {K : PySem.W.Frag} {mg : Str -> Option Value} {wd : World} {dl dl' : Dr wd K mg} {F : Hp} {ok : Nat -> Bool}
mutual
theorem Rep.re (ha : dl.a = dl'.a) (hm : ∀ i e, ok i = true -> dl.ms[i]? = some e -> dl'.ms[i]? = some e) : ∀ (d : D) (v : V), clF ok d = true -> Rep K mg dl F d v -> Rep K mg dl' F d v
  | .non, _, _, h => h
  | .bl _, _, _, h => h
  | .int _, _, _, h => h
  | .str _, _, _, h => h
  | .drw, v, _, q => by
    have q : v = .ref dl.a := q
    show v = .ref dl'.a
    rw [<- ha]; exact q
  | .scr xs, v, _, q => q
  | .tup xs, v, c, q => by
    obtain ⟨a, vs, h1, h2, h3, h4⟩ := q
    exact ⟨a, vs, h1, h2, h3, RepL.re ha hm xs vs (by rw [clF] at c; exact c) h4⟩
  | .lst xs, v, c, q => by
    obtain ⟨a, vs, h1, h2, h3, h4⟩ := q
    exact ⟨a, vs, h1, h2, h3, RepL.re ha hm xs vs (by rw [clF] at c; exact c) h4⟩
  | .obj _ ns xs, v, c, q => by
    obtain ⟨a, dx, C, vs, h1, h2, h3, h4, h5, h6⟩ := q
    exact ⟨a, dx, C, vs, h1, h2, h3, h4, h5, RepL.re ha hm xs vs (by rw [clF] at c; exact c) h6⟩
  | .dct ks xs, v, c, q => by
    obtain ⟨a, o, vs, h1, h2, h3, h4, h5⟩ := q
    exact ⟨a, o, vs, h1, h2, h3, h4, RepL.re ha hm xs vs (by rw [clF] at c; exact c) h5⟩
  | .dcT ks xs, v, c, q => by
    obtain ⟨a, o, vs, h1, h2, h3, h4, h5⟩ := q
    exact ⟨a, o, vs, h1, h2, h3, h4, RepL.re ha hm xs vs (by rw [clF] at c; exact c) h5⟩
  | .exc _ ns xs, v, c, q => by
    obtain ⟨a, C, vs, h1, h2, h3, h4, h5⟩ := q
    exact ⟨a, C, vs, h1, h2, h3, h4, RepL.re ha hm xs vs (by rw [clF] at c; exact c) h5⟩
  | .exm _ _, v, _, q => q
  | .dcN ks xs, v, c, q => by
    obtain ⟨a, nks, bs, vs, h1, h2, h3, h4, h5, h6, h7⟩ := q
    rw [clF, Bool.and_eq_true] at c
    exact ⟨a, nks, bs, vs, h1, h2, h3, h4, h5, RepL.re ha hm ks _ c.1 h6, RepL.re ha hm xs vs c.2 h7⟩
  | .ptp xs, v, c, q => by
    obtain ⟨a, o, vs, h1, h2, h3, h4, h5⟩ := q
    exact ⟨a, o, vs, h1, h2, h3, h4, RepL.re ha hm xs vs (by rw [clF] at c; exact c) h5⟩
  | .mob _ _ i, v, c, q => by
    obtain ⟨a, dx, h1, h2, h3⟩ := q
    exact ⟨a, dx, hm i _ c h1, h2, h3⟩
theorem RepL.re (ha : dl.a = dl'.a) (hm : ∀ i e, ok i = true -> dl.ms[i]? = some e -> dl'.ms[i]? = some e) : ∀ (ds : List D) (vs : List V), clFs ok ds = true -> RepL K mg dl F ds vs -> RepL K mg dl' F ds vs
  | [], _, _, h => h
  | d :: ds, vs, c, q => by
    obtain ⟨v, vs', h1, h2, h3⟩ := q
    rw [clFs, Bool.and_eq_true] at c
    exact ⟨v, vs', h1, Rep.re ha hm d v c.1 h2, RepL.re ha hm ds vs' c.2 h3⟩
end
mutual
theorem TR.re {H : Hp} (ha : dl.a = dl'.a) (hm : ∀ i e, ok i = true -> dl.ms[i]? = some e -> dl'.ms[i]? = some e) : ∀ (t : T) (v : V) (as : List Addr), clT ok t = true -> TR K mg dl F H t v as -> TR K mg dl' F H t v as
  | .fz d, v, as, c, h => ⟨h.1, Rep.re ha hm d v (by rw [clT] at c; exact c) h.2⟩
  | .lst ts, v, as, c, h => by
    obtain ⟨a, vs, bs, h1, h2, h3, h4, h5⟩ := h
    exact ⟨a, vs, bs, h1, h2, h3, h4, TRL.re ha hm ts vs bs (by rw [clT] at c; exact c) h5⟩
  | .dct k ts, v, as, c, h => by
    obtain ⟨a, vs, bs, h1, h2, h3, h4, h5, h6⟩ := h
    exact ⟨a, vs, bs, h1, h2, h3, h4, h5, TRL.re ha hm ts vs bs (by rw [clT] at c; exact c) h6⟩
theorem TRL.re {H : Hp} (ha : dl.a = dl'.a) (hm : ∀ i e, ok i = true -> dl.ms[i]? = some e -> dl'.ms[i]? = some e) : ∀ (ts : List T) (vs : List V) (as : List Addr), clTs ok ts = true -> TRL K mg dl F H ts vs as -> TRL K mg dl' F H ts vs as
  | [], _, _, _, h => h
  | t :: ts, vs, as, c, h => by
    obtain ⟨v, vs', a1, a2, h1, h2, h3, h4⟩ := h
    rw [clTs, Bool.and_eq_true] at c
    exact ⟨v, vs', a1, a2, h1, h2, TR.re ha hm t v a1 c.1 h3, TRL.re ha hm ts vs' a2 c.2 h4⟩
end
theorem Sim.re {F0 H0 H : Hp} {sg : L2.St} {G : Sls} (S : Sim K mg dl F0 H0 F H sg G) (ha : dl.a = dl'.a) (ho : dl.o = dl'.o) (hox : dl.ox = dl'.ox) (hm : ∀ i e, ok i = true -> dl.ms[i]? = some e -> dl'.ms[i]? = some e) (cl : ∀ (i : Nat) (sl : Sl), G[i]? = some (some sl) -> clS ok sl = true)
    (h1 : ∀ b o, H b = some o -> ¬ dl.has b -> ¬ dl'.has b) (h2 : ∀ b o, H0 b = some o -> ¬ dl'.has b -> ¬ dl.has b) : Sim K mg dl' F0 H0 F H sg G := by
  refine ⟨S.len, fun i sl e => ?_, S.dis, ⟨S.st.fs, fun b o nb e => S.st.hs b o (h2 b o e nb) e, S.st.nw, S.st.al⟩, ?_⟩
  · obtain ⟨v, k1, k2⟩ := S.sl i sl e
    refine ⟨v, k1, ?_⟩
    have c := cl i sl e
    cases sl with
    | fz d => exact Rep.re ha hm d v c k2
    | own ds =>
      obtain ⟨a, vs, m1, m2, m3, m4, m5, m6, m7⟩ := k2
      exact ⟨a, vs, m1, m2, m3, m4, h1 a _ m2 m5, m6, RepL.re ha hm _ _ c m7⟩
    | ini _ ns ds =>
      obtain ⟨a, dx, C, vs, m1, m2, m3, m4, m5, m6, m7, m8, m9, m10, m11, ⟨m12, m13, m14⟩, m15⟩ := k2
      exact ⟨a, dx, C, vs, m1, m2, m3, m4, m5, m6, m7, m8, h1 a _ m3 m9, h1 dx _ m4 m10, m11, ⟨m12, by rw [<- ho]; exact m13, by rw [<- hox]; exact m14⟩, RepL.re ha hm _ _ c m15⟩
    | ownX k ds =>
      obtain ⟨a, vs, m1, m2, m3, m4, m5, m6, m7, m8⟩ := k2
      exact ⟨a, vs, m1, m2, m3, m4, h1 a _ m2 m5, m6, m7, RepL.re ha hm _ _ c m8⟩
    | ownP pp k ds =>
      obtain ⟨a, vs, m1, m2, m3, m4, m5, m6, m7, m8⟩ := k2
      obtain ⟨c1, c2⟩ := Bool.and_eq_true_iff.mp c
      exact ⟨a, vs, m1, m2, m3, m4, h1 a _ m2 m5, m6, ⟨m7.1, hm pp _ c1 m7.2⟩, RepL.re ha hm _ _ c2 m8⟩
    | tree t => trivial
  · obtain ⟨fp, T⟩ := S.tr
    exact ⟨fp, fun i t e => by
      obtain ⟨v, q1, q2, q3, q4⟩ := T.at_ i t e
      exact ⟨v, q1, TR.re ha hm t v _ (cl i _ e) q2, q3, fun a z => ⟨(q4 a z).1, (q4 a z).2.1, by
        obtain ⟨o, y⟩ := TR.some t v _ q2 a z
        exact h1 a o y (q4 a z).2.2⟩⟩, T.dj, T.nx⟩
def dropG (p : Sl -> Bool) (G : Sls) : Sls := G.map fun o => match o with
  | some sl => if p sl = true then some sl else none
  | none => none
theorem dropG_get {p : Sl -> Bool} {G : Sls} {i : Nat} {sl : Sl} (h : (dropG p G)[i]? = some (some sl)) : G[i]? = some (some sl) /\ p sl = true := by
  unfold dropG at h
  rw [List.getElem?_map] at h
  cases e : G[i]? with
  | none => rw [e] at h; cases h
  | some o =>
    rw [e] at h
    cases o with
    | none => cases h
    | some s =>
      by_cases q : p s = true
      · rw [Option.map_some] at h
        simp only [if_pos q, Option.some.injEq] at h
        subst h
        exact ⟨rfl, q⟩
      · rw [Option.map_some] at h
        simp only [if_neg q, Option.some.injEq] at h
        cases h
theorem Sim.dropG {F0 H0 H : Hp} {sg : L2.St} {G : Sls} (S : Sim K mg dl F0 H0 F H sg G) (p : Sl -> Bool) : Sim K mg dl F0 H0 F H sg (EK.dropG p G) := by
  refine ⟨by unfold EK.dropG; rw [List.length_map]; exact S.len, fun i sl e => S.sl i sl (dropG_get e).1, fun i j s t e1 e2 => S.dis i j s t (dropG_get e1).1 (dropG_get e2).1, S.st, ?_⟩
  obtain ⟨fp, T⟩ := S.tr
  exact ⟨fp, fun i t e => T.at_ i t (dropG_get e).1, fun i j t u e1 e2 => T.dj i j t u (dropG_get e1).1 (dropG_get e2).1, fun i j t s a e1 e2 => T.nx i j t s a (dropG_get e1).1 (dropG_get e2).1⟩
end
end
section
def Dr.add {wd : World} {K : PySem.W.Frag} {mg : Str -> Option Value} (dl : Dr wd K mg) (e : Addr × Addr × Str × List Str) : Dr wd K mg := ⟨dl.a, dl.w, dl.c, dl.o, dl.ox, dl.tabs, dl.ms ++ [e], dl.act⟩
section
variable {wd : World} {K : PySem.W.Frag} {mg : Str -> Option Value} {dl : Dr wd K mg} {x dx C : Addr} {c : Str} {ns : List Str} {F H F' H' : Hp}
theorem add_has {b : Addr} (h : dl.has b) : (dl.add (x, dx, c, ns)).has b := by
  rcases h with h | h | h | h | ⟨h, q, m, hq⟩
  · exact .inl h
  · exact .inr (.inl h)
  · exact .inr (.inr (.inl h))
  · exact .inr (.inr (.inr (.inl h)))
  · exact .inr (.inr (.inr (.inr ⟨h, q, List.mem_append_left _ m, hq⟩)))
theorem has_add {b : Addr} (h : (dl.add (x, dx, c, ns)).has b) : dl.has b \/ (b = x /\ dl.act = true /\ c ≠ noC) := by
  rcases h with h | h | h | h | ⟨h, q, m, hq⟩
  · exact .inl (.inl h)
  · exact .inl (.inr (.inl h))
  · exact .inl (.inr (.inr (.inl h)))
  · exact .inl (.inr (.inr (.inr (.inl h))))
  · rcases List.mem_append.mp m with m | m
    · exact .inl (.inr (.inr (.inr (.inr ⟨h, q, m, hq⟩))))
    · rw [List.mem_singleton] at m
      cases m
      exact .inr ⟨rfl, h, hq⟩
theorem add_ms (i : Nat) (e : Addr × Addr × Str × List Str) (h : dl.ms[i]? = some e) : (dl.add (x, dx, c, ns)).ms[i]? = some e := by
  show (dl.ms ++ [(x, dx, c, ns)])[i]? = some e
  rw [List.getElem?_append_left (List.getElem?_eq_some_iff.mp h).1]; exact h
theorem ms_add (i : Nat) (e : Addr × Addr × Str × List Str) (l : i < dl.ms.length) (h : (dl.add (x, dx, c, ns)).ms[i]? = some e) : dl.ms[i]? = some e := by
  have h : (dl.ms ++ [(x, dx, c, ns)])[i]? = some e := h
  rw [List.getElem?_append_left l] at h; exact h
theorem Wd.pop {s : DS} (w : Wd (dl.add (x, dx, c, ns)) F H s) (hc : (s.objs.take dl.ms.length).all (clFs fun i => decide (i < dl.ms.length)) = true) : Wd dl F H { s with objs := s.objs.take dl.ms.length } := by
  refine ⟨w.sub, fun b hb => w.off b (add_has hb), w.dr, w.tb, w.ob.1, fun ac => ?_⟩
  have O := w.ob.2 ac
  have hl : dl.ms.length + 1 = s.objs.length := by
    have := O.len
    rw [<- this]
    show _ = (dl.ms ++ [_]).length
    rw [List.length_append]; rfl
  refine ⟨?_, fun i a' dx' c' ns' xs' hcn e1 e2 => ?_, fun i j a q q' e1 e2 => O.nd i j a q q' (add_ms i _ e1) (add_ms j _ e2)⟩
  · show _ = (s.objs.take _).length
    rw [List.length_take]; omega
  · have hi := (List.getElem?_eq_some_iff.mp e1).1
    have e2 : (s.objs.take dl.ms.length)[i]? = some xs' := e2
    have cl := List.all_eq_true.mp hc xs' (List.mem_of_getElem? e2)
    rw [List.getElem?_take_of_lt hi] at e2
    obtain ⟨C', us', m1, m2, m3, m4, m5, m6⟩ := O.at_ i a' dx' c' ns' xs' hcn (add_ms i _ e1) e2
    exact ⟨C', us', m1, m2, m3, m4, m5, RepL.re (dl := dl.add (x, dx, c, ns)) (dl' := dl) (ok := fun i => decide (i < dl.ms.length)) rfl (fun i e l h => ms_add i e (of_decide_eq_true l) h) _ _ cl m6⟩
theorem Step.pop {F0 H0 : Hp} (st : Step (dl.add (x, dx, c, ns)) F0 H0 F H) (h : H0 x = none) : Step dl F0 H0 F H :=
  ⟨st.fs, fun b o nb e => st.hs b o (fun z => by
    rcases has_add z with z | ⟨z, _⟩
    · exact nb z
    · rw [z, h] at e; cases e) e, st.nw, st.al⟩
theorem Sim.pop {F0 H0 : Hp} {sg : L2.St} {G : Sls} (S : Sim K mg (dl.add (x, dx, c, ns)) F0 H0 F H sg G) (h : H0 x = none) : Sim K mg dl F0 H0 F H sg (EK.dropG (clS fun i => decide (i < dl.ms.length)) G) :=
  (S.dropG (clS fun i => decide (i < dl.ms.length))).re (ok := fun i => decide (i < dl.ms.length)) rfl rfl rfl (fun i e l q => ms_add i e (of_decide_eq_true l) q) (fun i sl e => (dropG_get e).2) (fun b o _ n z => n (add_has z)) fun b o e n z => by
    rcases has_add z with z | ⟨z, _⟩
    · exact n z
    · rw [z, h] at e; cases e
end
def forgetO (k : Nat) : Out -> Option Out
  | .next G => some (.next (dropG (clS fun i => decide (i < k)) G))
  | .brk G => some (.brk (dropG (clS fun i => decide (i < k)) G))
  | .cont G => some (.cont (dropG (clS fun i => decide (i < k)) G))
  | .ret d => if clF (fun i => decide (i < k)) d = true then some (.ret d) else none
def endN (k : Nat) : Option (Res Out × DS) -> Option (Res Out × DS)
  | some (.ok o, s') => if (s'.objs.take k).all (clFs fun i => decide (i < k)) = true then (forgetO k o).map fun o => (.ok o, { s' with objs := s'.objs.take k }) else none
  | some (.err e, s') => if ((s'.objs.take k).all (clFs fun i => decide (i < k)) && clFs (fun i => decide (i < k)) e.xs) = true then some (.err e, { s' with objs := s'.objs.take k }) else none
  | none => none
section
variable {X : Cx} {dl : Dr X.w X.K X.mg} {W : WX} {pos p : Pos} {e : Expr} {es : List Expr} {ra : SA}
theorem GoS.pop {x dx : Addr} {c : Str} {ns : List Str} {F0 H0 F F2 : Hp} {r : Option (Res Out × DS)} {E : Ends} (sm : Same F F2) (h : H0 x = none) (g : GoS X dl W F0 H0 F (endN dl.ms.length r) E) : GoS X (dl.add (x, dx, c, ns)) W F0 H0 F2 r E := by
  cases r with
  | none => exact g
  | some p =>
    obtain ⟨r, s'⟩ := p
    cases r with
    | err e =>
      unfold endN at g
      by_cases q : ((s'.objs.take dl.ms.length).all (clFs fun i => decide (i < dl.ms.length)) && clFs (fun i => decide (i < dl.ms.length)) e.xs) = true
      case neg => simp only [if_neg q] at g; exact g.elim
      simp only [if_pos q] at g
      obtain ⟨q1, q2⟩ := Bool.and_eq_true_iff.mp q
      intro F' H' sg' cls d st w xr
      refine g F' H' sg' cls d (st.pop h) (w.pop q1) ?_
      obtain ⟨C, x1, x2, x3⟩ := xr
      refine ⟨C, x1, x2, ?_⟩
      rcases x3 with x3 | ⟨x3, a, vs, y1, y2, y3, y4⟩
      · exact .inl x3
      · exact .inr ⟨x3, a, vs, y1, y2, y3, RepL.re (dl := dl.add (x, dx, c, ns)) (dl' := dl) (ok := fun i => decide (i < dl.ms.length)) rfl (fun i e l h => ms_add i e (of_decide_eq_true l) h) _ _ q2 y4⟩
    | ok o =>
      unfold endN at g
      by_cases q : (s'.objs.take dl.ms.length).all (clFs fun i => decide (i < dl.ms.length)) = true
      case neg => simp only [if_neg q] at g; exact g.elim
      simp only [if_pos q] at g
      cases o with
      | next G => exact fun F' H' sg' m w S => g F' H' sg' (fun b o e => m b o (sm b o e)) (w.pop q) (S.pop h)
      | brk G => exact fun F' H' sg' m w S => g F' H' sg' (fun b o e => m b o (sm b o e)) (w.pop q) (S.pop h)
      | cont G => exact fun F' H' sg' m w S => g F' H' sg' (fun b o e => m b o (sm b o e)) (w.pop q) (S.pop h)
      | ret d =>
        unfold forgetO at g
        by_cases z : clF (fun i => decide (i < dl.ms.length)) d = true
        case neg => simp only [if_neg z] at g; exact g.elim
        simp only [if_pos z] at g
        exact fun F' H' v st w r => g F' H' v (st.pop h) (w.pop q) (Rep.re (dl := dl.add (x, dx, c, ns)) (dl' := dl) (ok := fun i => decide (i < dl.ms.length)) rfl (fun i e l h => ms_add i e (of_decide_eq_true l) h) _ _ z r)
end
end
section
end
section
end
section
def tget {α : Type} : List (Str × α) -> Str -> Option α
  | [], _ => none
  | (k, v) :: r, z => if k = z then some v else tget r z
theorem tget_mem {α : Type} : ∀ {l : List (Str × α)} {z : Str} {v : α}, tget l z = some v -> (z, v) ∈ l
  | (k, u) :: r, z, v, h => by
    unfold tget at h
    by_cases q : k = z
    · rw [if_pos q] at h; cases h; subst q; exact List.mem_cons_self
    · rw [if_neg q] at h; exact List.mem_cons_of_mem _ (tget_mem h)
theorem tget_none {α : Type} : ∀ {l : List (Str × α)} {z : Str}, tget l z = none -> z ∉ l.map (·.1)
  | [], z, _ => by simp
  | (k, u) :: r, z, h => by
    unfold tget at h
    by_cases q : k = z
    · rw [if_pos q] at h; cases h
    · rw [if_neg q] at h
      rw [List.map_cons, List.mem_cons]
      exact fun o => o.elim (fun e => q e.symm) (tget_none h)
def TabC (K : PySem.W.Frag) (w : World) (mg : Str -> Option Value) (x : Str) (kvs : List (Str × He.Dv)) : Prop :=
  ∃ (a : Addr) (es : Array DictEntry) (n : Nat), mg x = some (.ref a) /\ KDict K w a es n /\ ∀ z, (∀ v, tget kvs z = some v -> ∃ u, PySem.W.nsIn K a z = some (some u) /\ RelV (v.v K) u) /\ (tget kvs z = none -> PySem.W.nsIn K a z = some none)
theorem dicW_es {K : PySem.W.Frag} {a : Addr} {l : List (Option (Str × Int))} (h : He.dicW K a = some l) : ∃ es n, K.lookup a = some ⟨.type "dict", none, .dict es n, #[]⟩ /\ es.toList.map He.keyOf = l := by
  unfold He.dicW at h
  split at h
  · rename_i c es n sl q
    split at h
    · rename_i z
      obtain ⟨z1, z2⟩ := He.ba z
      obtain ⟨z3, z4⟩ := He.ba z2
      have e1 : c = "dict" := of_decide_eq_true z1
      have e2 : sl = #[] := Array.isEmpty_iff.mp z3
      subst e1 e2
      exact ⟨es, n, q, Option.some.inj h⟩
    · cases h
  · cases h
theorem nsIn_out {P : Params} {z : Str} : ∀ {es : List DictEntry} {ks : List Str}, es.map He.keyOf = He.keysIn P ks -> z ∉ ks -> es.find? (·.key.isStr z) = none /\ es.any (·.refKey) = false
  | [], _, _, _ => ⟨rfl, rfl⟩
  | e :: r, [], h, _ => by cases h
  | e :: r, k :: ks, h, hz => by
    have h1 : He.keyOf e :: r.map He.keyOf = some (k, PyData.keyHash P k) :: He.keysIn P ks := h
    injection h1 with h2 h3
    obtain ⟨i1, i2⟩ := nsIn_out h3 (fun m => hz (List.mem_cons_of_mem _ m))
    have hk : k ≠ z := fun e => hz (e ▸ List.mem_cons_self)
    unfold He.keyOf at h2
    split at h2
    · rename_i x t q
      have h4 := Option.some.inj h2
      obtain ⟨h5, h6⟩ := Prod.mk.inj h4
      subst h5
      refine ⟨?_, ?_⟩
      · rw [List.find?_cons]
        have : e.key.isStr z = false := by rw [q]; simp [Value.isStr, hk]
        rw [this]
        exact i1
      · rw [List.any_cons, i2, Bool.or_false]
        unfold DictEntry.refKey
        rw [q]
    · cases h2
theorem tabC_of {K : PySem.W.Frag} {w : World} {mg : Str -> Option Value} {x : Str} {kvs : List (Str × He.Dv)} (gl : mg x = some (.ref (He.ga K x))) (h1 : He.dicW K (He.ga K x) = some (He.keysIn w.params (kvs.map (·.1)))) (h2 : He.valsB K (He.ga K x) kvs = true) : TabC K w mg x kvs := by
  obtain ⟨es, n, D⟩ := He.dicW_ok h1
  obtain ⟨es', n', l1, l2⟩ := dicW_es h1
  refine ⟨_, es, n, gl, D, fun z => ⟨fun v hv => He.valsB_ok h2 (q := (z, v)) (tget_mem hv), fun hn => ?_⟩⟩
  have e := l1.symm.trans D.at_
  cases e
  obtain ⟨i1, i2⟩ := nsIn_out l2 (tget_none hn)
  unfold PySem.W.nsIn
  rw [l1]
  simp only [i1, i2]
  rfl
theorem SaysU.tab {fa : List He.Fa} {fn : List He.DefD} {fx : List Fx} {gt : List GetD} {tf : List He.Defn} {xd : List ExcD} {ts : List TabQ} {w : World} {h : Heap} {K : PySem.W.Frag} {mg : Str -> Option Value} (c : SaysU fa fn fx gt tf xd ts w h K) (i : Nat) {t : TabQ}
    (gl : mg t.1 = some (.ref (He.ga K t.1))) (hi : ts[i]? = some t := by rfl) : TabC K w mg t.1 t.2 := by
  refine tabC_of gl ?_ ?_
  · have e2 : (ts.map fun t => He.dicW K (He.ga K t.1))[i]? = (ts.map fun t => some (He.keysIn w.params (t.2.map (·.1))))[i]? := by rw [c.ks] <;> rfl
    rw [List.getElem?_map, List.getElem?_map, hi] at e2
    exact Option.some.inj e2
  · exact List.all_eq_true.mp c.vs t (List.mem_of_getElem? hi)
end
section
end
section
end
section
end
section
end
section
end
section
end
section
end
section
end
section
end
section
end
section
end
section
end
section
end
section
end
section
end
section
end
section
end
section
end
section
open PySem.SeqAt (EqIn EqAt)
theorem hu66 {k : Nat} {A : Around} (r : Room k A) : A.units + 66 < cLine := by have := r.un; omega
def samePl (x y : D) : Bool := match toP x, toP y with
  | some p, some q => (PySem.SeqAt.shaped p && PySem.SeqAt.shaped q) && PyData.eqv p q
  | _, _ => false
def subZ (f : D -> D -> Bool) (js : List Key) (ys : List D) : List Key -> List D -> Bool
  | [], [] => true
  | k :: ks, x :: xs => (match atK js ys k with | some y => f x y | none => false) && subZ f js ys ks xs
  | _, _ => false
def sameDc (f : D -> D -> Bool) (a b : D) : Bool := match a, b with
  | .dct ks xs, .dct js ys => decide (ks.length = js.length) && subZ f js ys ks xs
  | _, _ => false
section
variable {X : Cx} {dl : Dr X.w X.K X.mg} {pins : List (Addr × Obj)} {σ : L2.St} {H F : Hp} {s : Shared}
def SaysEq (X : Cx) (dl : Dr X.w X.K X.mg) (F : Hp) (s : Shared) (A : Around) (f : D -> D -> Bool) : Prop := ∀ (x y : D) (v w : V) (v' w' : Value), f x y = true -> Rep X.K X.mg dl F x v -> Rep X.K X.mg dl F y w -> RelV v v' -> RelV w w' -> EqIn X.prog X.w A s v' w' true
theorem says_pl (I : Inv X pins σ H s) (sub : Same F H) {A : Around} (hu : A.units + 64 < cLine) : SaysEq X dl F s A samePl := by
  intro x y v w v' w' e r1 r2 q1 q2
  unfold samePl at e
  split at e
  · rename_i p q hp hq
    rw [Bool.and_eq_true, Bool.and_eq_true] at e
    obtain ⟨⟨s1, s2⟩, e⟩ := e
    obtain ⟨as, t1⟩ := Dp.reads I p v v' (dp_of sub _ _ _ r1 hp) q1
    obtain ⟨bs, t2⟩ := Dp.reads I q w w' (dp_of sub _ _ _ r2 hq) q2
    have t := PySem.SeqAt.eqAt_reads p q A s v' w' as bs t1 t2 (PySem.SeqAt.canLay_of_shaped s1) (PySem.SeqAt.canLay_of_shaped s2) (PySem.SeqAt.room_of_shaped s1 hu)
    rw [e] at t
    exact PySem.SeqAt.EqAt.inModel t X.prog X.w
  · cases e
theorem hitsIn_of {A : Around} {f : D -> D -> Bool} (hf : SaysEq X dl F s A f) {js : List Key} {ys : List D} {us : List V} (lb : js.length = us.length) (rb : RepL X.K X.mg dl F ys us) {vb : List (Key × Value)} (kb : KV (js.zip us) vb) :
    ∀ {ks : List Key} {xs : List D} {vs : List V} {va : List (Key × Value)}, subZ f js ys ks xs = true -> ks.length = vs.length -> RepL X.K X.mg dl F xs vs -> KV (ks.zip vs) va -> PySem.W.KeqHitsIn X.prog X.w A s vb va true
  | [], [], vs, va, h, l, r, k => by
    unfold KV at k
    rw [List.zip_nil_left] at k
    cases k
    exact .nil
  | k :: ks, x :: xs, [], va, h, l, r, kv => by cases l
  | k :: ks, x :: xs, v :: vs, va, h, l, r, kv => by
    obtain ⟨v', vs', e, r1, r2⟩ := r
    cases e
    unfold KV at kv
    rw [List.zip_cons_cons] at kv
    rw [subZ, Bool.and_eq_true] at h
    obtain ⟨h1, h2⟩ := h
    cases kv with
    | @cons _ q _ qs hq ht =>
      obtain ⟨q1, q2⟩ := hq
      obtain ⟨key, val⟩ := q
      have q1 : k = key := q1
      have q2 : RelV v val := q2
      subst q1
      have ih := hitsIn_of hf lb rb kb h2 (by simpa using l) r2 (show KV (ks.zip vs) qs from ht)
      have rel := kb.val k
      obtain ⟨z1, z2⟩ := valV_zip k lb rb
      cases ea : atK js ys k with
      | none => rw [ea] at h1; cases h1
      | some y =>
        rw [ea] at h1
        obtain ⟨w, w1, w2⟩ := z1 y ea
        rw [w1] at rel
        obtain ⟨w', hw, rw'⟩ := RelO.some_of (v := w) (o := valueAt vb k) rel
        exact .hit hw (hf x y v w val w' h1 r1 w2 q2 rw') ih
  | [], _ :: _, _, _, h, _, _, _ => by cases h
  | _ :: _, [], _, _, h, _, _, _ => by cases h
theorem dc_at (I : Inv X pins σ H s) (sub : Same F H) {A : Around} {f : D -> D -> Bool} (hf : SaysEq X dl F s A f) {a b : D} {v u : V} (e : sameDc f a b = true) (ra : Rep X.K X.mg dl F a v) (rb : Rep X.K X.mg dl F b u) :
    ∃ p q va vb, v = .ref p /\ u = .ref q /\ (p == sysModules) = false /\ (q == sysModules) = false /\ s.heap.DictOf (mixKind X.prog X.w) p va /\ s.heap.DictOf (mixKind X.prog X.w) q vb /\ PySem.W.KeqHitsIn X.prog X.w A s vb va true /\ (va.length == vb.length) = true := by
  unfold sameDc at e
  split at e
  · rename_i ks xs js ys
    rw [Bool.and_eq_true, decide_eq_true_eq] at e
    obtain ⟨p, o, vs, rfl, h1, h2, h3, h4⟩ := ra
    obtain ⟨q, o', us, rfl, g1, g2, g3, g4⟩ := rb
    obtain ⟨_, lp, va, rela, da⟩ := dk_rd I.hok (.inr ⟨o, sub _ _ h1⟩)
    obtain ⟨_, lq, vb, relb, db⟩ := dk_rd I.hok (.inr ⟨o', sub _ _ g1⟩)
    refine ⟨p, q, va, vb, rfl, rfl, lp, lq, da, db, hitsIn_of hf g2 g4 relb e.2 h2 h4 rela, ?_⟩
    have l1 : va.length = ks.length := by rw [<- rela.length, List.length_zip]; omega
    have l2 : vb.length = js.length := by rw [<- relb.length, List.length_zip]; omega
    rw [l1, l2, e.1, beq_self_eq_true]
  · cases e
theorem says_dc (I : Inv X pins σ H s) (sub : Same F H) {A : Around} (hu : A.units < cLine) {f : D -> D -> Bool} (hf : SaysEq X dl F s A.in1 f) : SaysEq X dl F s A (sameDc f) := by
  intro x y v w v' w' e r1 r2 q1 q2
  obtain ⟨p, q, va, vb, rfl, rfl, lp, lq, da, db, hh, hl⟩ := dc_at I sub hf e r1 r2
  cases (show v' = Value.ref p from q1)
  cases (show w' = Value.ref q from q2)
  by_cases z : p = q
  · subst z
    exact PySem.SeqAt.EqAt.inModel (PySem.SeqAt.EqAt.same _) X.prog X.w
  · exact PySem.SeqAt.EqIn.of_refs z fun E Q hq => PySem.W.keq_eqIn lp lq da db hu (fun _ => hh) (by rw [hl]; exact hq)
end
end
section
end
section
end
section
end
section
end
section
end
section
end
section
end
end EK
namespace EK
open PySem PySem.Spec PyProof.Rows L2 LamX
section
def CloO (f : Addr) (o : Obj) : HO := .frz o (.own f)
abbrev lamObj (X : Cx) (params : Arguments) (body : Expr) (scope : Scope) (pm : Value) (c' : Addr) (ctv : Value) : Obj := PySem.W.kla_obj "<lambda>" (X.env.qual ++ "<lambda>") params body scope (cloFrom X.env.cells scope.names []) pm c' ctv
section
variable {X : Cx} {pins : List (Addr × Obj)} {σ : L2.St} {H : Hp} {st : Shared}
theorem Inv.know {f : Addr} {ob : Obj} (I : Inv X pins σ H st) (hz : X.s_0.heap.objs.size <= f) (hf : st.heap.get? f = some ob) (hn : H f = none) (nl : f ≠ X.env.locals) (nc : ∀ x c, X.env.cells.lookup x = some c -> c ≠ f) (np : ∀ p ∈ X.pn ++ pins, p.1 ≠ f) : Inv X pins σ (upd H f (CloO f ob)) st := by
  have fr : ∀ b o, X.s_0.heap.get? b = some o -> b ≠ f := fun b o e z => by
    rw [z] at e
    exact Nat.lt_irrefl _ (Nat.lt_of_lt_of_le (Heap.lt_size e) hz)
  have B := I.base
  refine ⟨I.ok, I.os, I.bare, ⟨B.keep, B.slot, fun b o q n hx => ?_, B.there, fun b xs q => ?_, fun b o u q => ?_, fun b ps q => ?_⟩, I.loc, I.cell, ?_, fun x c e => ?_, fun p hp => ?_, fun b o e => ?_, I.len⟩
  · rw [upd_ne (fr b o q)]
    exact B.free b o q n hx
  · have z := B.tups b xs q
    rw [upd_ne (ne_of_none z hn)]
    exact z
  · have z := B.frzs b o u q
    rw [upd_ne (ne_of_none z hn)]
    exact z
  · obtain ⟨more, z⟩ := B.tbls b ps q
    exact ⟨more, by rw [upd_ne (ne_of_none z hn)]; exact z⟩
  · rw [upd_ne (Ne.symm nl)]
    exact I.free
  · rw [upd_ne (nc x c e)]
    exact I.freeC x c e
  · obtain ⟨h1, h2, h3⟩ := I.pin p hp
    exact ⟨h1, by rw [upd_ne (np p hp)]; exact h2, h3⟩
  · by_cases z : b = f
    · subst z
      rw [upd_same] at e
      cases e
      exact ⟨hf, _, hf⟩
    · rw [upd_ne z] at e
      exact (I.hok b o e).stay (fun d v _ q => q) (fun d q => by rw [upd_ne (ne_of_none q hn)]; exact q) fun d xs q => by rw [upd_ne (ne_of_none q hn)]; exact q
theorem Inv.toPin {f : Addr} {ob : Obj} (I : Inv X pins σ H st) (hf : H f = some (CloO f ob)) (h0 : ∀ o u, X.H_0 f ≠ some (.frz o u)) (hd : ∀ v, ob.data ≠ .cell v) : Inv X ((f, ob) :: pins) σ (delH H f) st := by
  have nd : ∀ b, H b = none -> delH H f b = none := fun b n => by
    unfold delH
    split
    · rfl
    · exact n
  have ne : ∀ b o, H b = some o -> (∀ u v, o ≠ .frz u v) -> delH H f b = some o := fun b o e n => by
    rw [delH_ne fun z => by
      rw [z, hf] at e
      exact n _ _ (Option.some.inj e).symm]
    exact e
  have B := I.base
  have raw := (I.hok f _ hf).1
  refine ⟨I.ok, I.os, I.bare, ⟨B.keep, B.slot, fun b o q n hx => nd b (B.free b o q n hx), B.there, fun b xs q => ne b _ (B.tups b xs q) (fun _ _ z => nomatch z), fun b o u q => ?_, fun b ps q => ?_⟩, I.loc, I.cell, nd _ I.free, fun x c e => nd _ (I.freeC x c e), fun p hp => ?_, fun b o e => ?_, I.len⟩
  · have z := B.frzs b o u q
    rw [delH_ne fun y => h0 o u (by rw [<- y]; exact q)]
    exact z
  · obtain ⟨more, z⟩ := B.tbls b ps q
    exact ⟨more, ne b _ z fun _ _ y => by cases y⟩
  · rcases List.mem_append.mp hp with hp | hp
    · obtain ⟨h1, h2, h3⟩ := I.pin p (List.mem_append_left _ hp)
      exact ⟨h1, nd _ h2, h3⟩
    · rcases List.mem_cons.mp hp with rfl | hp
      · refine ⟨raw, delH_same, fun z => ?_, fun z => ?_, hd⟩
        · have q := I.free
          have z : f = X.env.locals := z
          rw [<- z, hf] at q
          cases q
        · obtain ⟨_, o, ho, _⟩ := I.ok.funs.mem z
          have q := I.base.free f o ho (I.ok.frf f z) fun y => I.ok.exfs f y z
          rw [hf] at q
          cases q
      · obtain ⟨h1, h2, h3⟩ := I.pin p (List.mem_append_right _ hp)
        exact ⟨h1, nd _ h2, h3⟩
  · by_cases z : b = f
    · rw [z, delH_same] at e
      cases e
    · rw [delH_ne z] at e
      exact (I.hok b o e).stay (fun d v _ q => q) (fun d q => ne d _ q fun _ _ y => by cases y) fun d xs q => ne d _ q fun _ _ y => by cases y
end
def tMkLam (X : Cx) (T : List (Addr × Str)) (params : Arguments) (body : Expr) (scope : Scope) : TE := fun σ H Q => Tabs T H /\ ∀ H1, ExtM H H1 -> Tabs T H1 -> ∀ (f c' : Addr) (pm ctv : Value), H1 f = none -> (∀ o u, X.H_0 f ≠ some (.frz o u)) -> H1 c' = some (CodeO c' (X.env.qual ++ "<lambda>")) ->
  Q (.ref f) (upd H1 f (CloO f (lamObj X params body scope pm c' ctv)))
section
variable {X : Cx}
theorem pe_mkLam {T : List (Addr × Str)} {c P : Addr} {params : Arguments} {body : Expr} {scope : Scope} {posL : Pos} (tbb : TabB X.base X.mg c P) (hcde : X.env.code = .ref c) (hmTb : (P, X.env.qual ++ "<lambda>") ∈ T) (huq : ∀ p ∈ T, p.1 = P -> p.2 = X.env.qual ++ "<lambda>") (Lm : LamS X.env.scope scope) (hdf : defaultsOf params X.env = ([], [])) :
    PE X (.Lambda params body scope posL) (tMkLam X T params body scope) := by
  refine ⟨fun pins st σ H Qv I hh => ?_⟩
  obtain ⟨hTT, hh⟩ := hh
  refine lam_makeM I tbb hcde hmTb huq hTT hdf (Lm.has I.ok) fun f c' pm' ctv2 H1 st' J1 eNx tT1 fge hfnn hfrr hcoA hsz => ?_
  have rw' : ∀ v, (lamObj X params body scope pm' c' ctv2).data ≠ .cell v := fun v z => by cases z
  refine ⟨.ref f, _, Inv.know J1 (Nat.le_trans I.sz hsz) fge hfnn (fun z => ?_) (fun x c e z => ?_) (fun p hp z => ?_), rfl, hh H1 eNx tT1 f c' pm' ctv2 hfnn (fun o u q => ?_) hcoA⟩
  · have := I.lt
    rw [<- z] at this
    exact absurd (Nat.lt_of_lt_of_le this hsz) (Nat.lt_irrefl _)
  · obtain ⟨v, o, ho, hd⟩ := J1.cell x c e
    rw [z, fge] at ho
    cases ho
    cases hd
  · have q := (I.pin p hp).1
    rw [z] at q
    exact absurd (Nat.lt_of_lt_of_le (Heap.lt_size q) hsz) (Nat.lt_irrefl _)
  · have z := J1.base.frzs f o u q
    rw [hfnn] at z
    cases z
theorem pss_pin {st1 : Stmt} {rest : List Stmt} {t1 : TS} {t2 : List (Addr × Obj) -> TS} (h1 : PS X st1 t1) (h2 : ∀ pn, PSs (X.tr pn X.xe) rest (t2 pn)) :
    PSs X (st1 :: rest) (fun D σ H => t1 { D with nx := fun σ' H' => ∃ f ob, H' f = some (CloO f ob) /\ (∀ o u, X.H_0 f ≠ some (.frz o u)) /\ (∀ v, ob.data ≠ .cell v) /\ ∀ pn, (f, ob) ∈ pn -> (∀ p ∈ X.pn, p ∈ pn) -> t2 pn D σ' (delH H' f) } σ H) := by
  refine ⟨fun pins s σ H D I h => ?_⟩
  refine wpAny_execs_cons (thn (h1.run pins s σ H _ I h) fun fl s1 q => ?_)
  cases fl with
  | ret v => exact q
  | brk => exact q
  | cont => exact q
  | next =>
    obtain ⟨σ', H', I', f, ob, q1, q2, q3, q4⟩ := q
    have J := (Inv.toPin I' q1 q2 q3).toTry X.xe
    have m1 : (f, ob) ∈ X.pn ++ (f, ob) :: pins := List.mem_append_right _ (.head _)
    have un : ∀ {σ H s'}, Inv (X.tr (X.pn ++ (f, ob) :: pins) X.xe) [] σ H s' -> Inv X pins σ H s' := fun {σ H s'} K => by
      have K1 : Inv X ((f, ob) :: pins) σ H s' := K.ofTry I.ok
      exact K1.pins_of fun p hp => K1.pin p (List.mem_append_right _ (.tail _ hp))
    refine thn ((h2 (X.pn ++ (f, ob) :: pins)).run [] s1 σ' _ D J (q4 _ m1 fun p hp => List.mem_append_left _ hp)) fun fl2 s2 z => ?_
    cases fl2 with
    | next =>
      obtain ⟨σ2, H2, K, z⟩ := z
      exact ⟨σ2, H2, un K, z⟩
    | brk =>
      obtain ⟨σ2, H2, K, z⟩ := z
      exact ⟨σ2, H2, un K, z⟩
    | cont =>
      obtain ⟨σ2, H2, K, z⟩ := z
      exact ⟨σ2, H2, un K, z⟩
    | ret u =>
      obtain ⟨v, σ2, H2, K, rv, z⟩ := z
      exact ⟨v, σ2, H2, un K, rv, z⟩
end
end
section
section
variable {wd : World} {K : PySem.W.Frag} {mg : Str -> Option Value} {dl : Dr wd K mg} {F H F0 H0 : Hp} {sg : L2.St} {G : Sls}
theorem Wd.addC {s : DS} (w : Wd dl F H s) (lv : s.live = true) (a c' : Addr) (ns : List Str) : Wd (dl.add (a, c', noC, ns)) F H { s with objs := s.objs ++ [[]] } := by
  have ac := w.ob.1 lv
  have O := w.ob.2 ac
  have old : ∀ (k : Nat) (b : Addr) (r : Addr × Str × List Str), r.2.1 ≠ noC -> (dl.add (a, c', noC, ns)).ms[k]? = some (b, r) -> k < dl.ms.length := fun k b r hr e => by
    by_cases hk : k < dl.ms.length
    · exact hk
    · exfalso
      have e : (dl.ms ++ [(a, c', noC, ns)])[k]? = some (b, r) := e
      rw [List.getElem?_append_right (by omega)] at e
      cases y : k - dl.ms.length with
      | zero => rw [y] at e; cases e; exact hr rfl
      | succ m => rw [y] at e; cases e
  refine ⟨w.sub, fun b hb => ?_, w.dr, w.tb, w.ob.1, fun _ => ⟨?_, fun i a' dx' c2 ns' xs' hcn' e1 e2 => ?_, ?_⟩⟩
  · rcases has_add hb with h | ⟨_, _, h⟩
    · exact w.off b h
    · exact absurd rfl h
  · show (dl.ms ++ [_]).length = (s.objs ++ [[]]).length
    rw [List.length_append, List.length_append, O.len]; rfl
  · have hi := old i a' (dx', c2, ns') hcn' e1
    have e1 := ms_add i _ hi e1
    have e2 : (s.objs ++ [[]])[i]? = some xs' := e2
    rw [List.getElem?_append_left (by rw [<- O.len]; exact hi)] at e2
    obtain ⟨C', us', m1, m2, m3, m4, m5, m6⟩ := O.at_ i a' dx' c2 ns' xs' hcn' e1 e2
    exact ⟨C', us', m1, m2, m3, m4, m5, RepL.re (dl := dl) (ok := fun _ => true) (dl' := dl.add (a, c', noC, ns)) rfl (fun i e _ h => add_ms i e h) _ _ (clFs_true _) m6⟩
  · intro i j b q q' e1 e2 h1 h2
    exact O.nd i j b q q' (ms_add i _ (old i b q h1 e1) e1) (ms_add j _ (old j b q' h2 e2) e2) h1 h2
theorem Sim.addC (S : Sim K mg dl F0 H0 F H sg G) (a c' : Addr) (ns : List Str) : Sim K mg (dl.add (a, c', noC, ns)) F0 H0 F H sg G :=
  S.re (ok := fun _ => true) rfl rfl rfl (fun i e _ h => add_ms i e h) (fun _ sl _ => clS_true sl) (fun b o e n z => by
    rcases has_add z with z | ⟨_, _, z⟩
    · exact n z
    · exact z rfl) fun b o _ n z => n (add_has z)
theorem Step.addC {F' H' : Hp} (st : Step dl F H F' H') (a c' : Addr) (ns : List Str) : Step (dl.add (a, c', noC, ns)) F H F' H' := ⟨st.fs, fun b o n e => st.hs b o (fun z => n (add_has z)) e, st.nw, st.al⟩
theorem nhas_addC {a c' : Addr} {ns : List Str} {b : Addr} (n : ¬ dl.has b) : ¬ (dl.add (a, c', noC, ns)).has b := fun z => by
  rcases has_add z with z | ⟨_, _, z⟩
  · exact n z
  · exact z rfl
theorem addC_ms {s : DS} (w : Wd dl F H s) (lv : s.live = true) (a c' : Addr) (ns : List Str) : (dl.add (a, c', noC, ns)).ms[s.objs.length]? = some (a, c', noC, ns) := by
  have O := w.ob.2 (w.ob.1 lv)
  show (dl.ms ++ [(a, c', noC, ns)])[s.objs.length]? = _
  rw [<- O.len, List.getElem?_append_right (Nat.le_refl _), Nat.sub_self]; rfl
end
structure LamAt (X : Cx) (dl : Dr X.w X.K X.mg) (n kk : Nat) (f : SE) : Prop where
  ex : ∃ (fa c' : Addr) (params : Arguments) (body : Expr) (scope : Scope) (pm ctv : Value), dl.ms[n]? = some (fa, c', noC, [X.env.qual ++ "<lambda>"]) /\ (fa, lamObj X params body scope pm c' ctv) ∈ X.pn /\ LamS X.env.scope scope /\
    (∀ (q : Str) (cl : List (Str × Addr)) (pm cv ctv : Value), bindArgs (PySem.W.kla_fn "<lambda>" q params body scope cl pm cv ctv) ⟨[], []⟩ = pure []) /\
    ∀ dl2 : Dr X.w X.K X.mg, dl2.tabs = dl.tabs -> ∀ (A : Around) (outer : List Env) (s : Shared) (H : Hp) (E : XK) (fa c' : Addr), Room kk (lamCx X A outer s H E scope fa c').A -> Takes (lamCx X A outer s H E scope fa c') (fun cls d _ H => E cls d H) -> DE (lamCx X A outer s H E scope fa c') dl2 (fun cls d _ H => E cls d H) body f
theorem LamAt.mono {X : Cx} {dl dl' : Dr X.w X.K X.mg} {n kk : Nat} {f : SE} (h : LamAt X dl n kk f) {pn : List (Addr × Obj)} {xe : Value -> Shared -> Prop} (hp : ∀ p ∈ X.pn, p ∈ pn) (ht : dl'.tabs = dl.tabs) (hm : ∀ (i : Nat) (e : Addr × Addr × Str × List Str), dl.ms[i]? = some e -> dl'.ms[i]? = some e) : LamAt (X.tr pn xe) dl' n kk f := by
  obtain ⟨fa, c', params, body, scope, pm, ctv, h1, h2, h3, h4, h5⟩ := h.ex
  exact ⟨fa, c', params, body, scope, pm, ctv, hm _ _ h1, hp _ h2, h3, h4, fun dl2 hd => h5 dl2 (hd.trans ht)⟩
theorem Takes.tr {X : Cx} {W : WX} (tk : Takes X W) {pn : List (Addr × Obj)} (hp : ∀ p ∈ X.pn, p ∈ pn) : Takes (X.tr pn X.xe) W := fun u s' ⟨a, B, sI, pins, σ, H, cls, d, e, I, nb, up, sky, na, os, ag, w⟩ =>
  tk u s' ⟨a, B, sI, pins, σ, H, cls, d, e, ⟨Cx.Ok.ofTry I.ok, I.os, I.bare, I.base, I.loc, I.cell, I.free, I.freeC, fun p z => I.pin p (by
    rcases List.mem_append.mp z with z | z
    · exact List.mem_append_left _ (hp p z)
    · exact List.mem_append_right _ z), I.hok, I.len⟩, nb, up, sky, na, os, ag, w⟩
def lamQ (n : Str) : Str := n ++ (".<locals>." : Str) ++ ("<lambda>" : Str)
def sLamN (i : Nat) (q : Str) (b : Nat -> SS) : SS := fun G s => if s.live = true then endN s.objs.length (b s.objs.length (G.set i (some (.own [.mob noC [q] s.objs.length]))) { s with objs := s.objs ++ [[]] }) else none
def sLamA (i : Nat) (q : Str) (b : Nat -> SS) : SS := fun G s => match G[i]? with
  | some (some (.own ds)) => if s.live = true /\ ds.length < sizeLine then endN s.objs.length (b s.objs.length (G.set i (some (.own (ds ++ [.mob noC [q] s.objs.length])))) { s with objs := s.objs ++ [[]] }) else none
  | _ => none
section
variable {X : Cx} {dl : Dr X.w X.K X.mg} {W : WX}
theorem pss_exN {Y : Cx} {ss : List Stmt} {P : Dr Y.w Y.K Y.mg -> Nat -> Prop} {t : Dr Y.w Y.K Y.mg -> Nat -> TS} (h : ∀ dl n, P dl n -> PSs Y ss (t dl n)) : PSs Y ss (fun E sg H => ∃ (dl : Dr Y.w Y.K Y.mg) (n : Nat), P dl n /\ t dl n E sg H) := ⟨fun pins s sg H D I q => by
  obtain ⟨dl, n, e, q⟩ := q
  exact (h dl n e).run pins s sg H D I q⟩
structure LamP (X : Cx) (dl : Dr X.w X.K X.mg) (kk : Nat) (f : SE) (pn : List (Addr × Obj)) (dl' : Dr X.w X.K X.mg) (n : Nat) : Prop where
  tabs : dl'.tabs = dl.tabs
  act : dl'.act = true
  ms : ∀ (i : Nat) (e : Addr × Addr × Str × List Str), dl.ms[i]? = some e -> dl'.ms[i]? = some e
  sub : ∀ p ∈ X.pn, p ∈ pn
  at_ : LamAt (X.tr pn X.xe) dl' n kk f
theorem lam_tabs {F H : Hp} {s : DS} (w : Wd dl F H s) : Tabs dl.tabs H := fun q hq => by
  obtain ⟨ps, h1, h2, h3⟩ := w.tb.at_ q hq
  exact ⟨ps, h1, h2, fun pos cv hc => by
    obtain ⟨c, e1, e2⟩ := h3 pos cv hc
    exact ⟨c, e1, w.sub _ _ e2⟩⟩
theorem codeF {F H : Hp} {s : DS} (w : Wd dl F H s) {c' : Addr} {q : Str} (h : H c' = some (CodeO c' q)) : F c' = some (CodeO c' q) := w.tb.cd _ _ _ h
theorem dss_lamN (i : Nat) {y q : Str} {cc PT : Addr} {kk : Nat} {params : Arguments} {body : Expr} {scope : Scope} {f : SE} {rest : List Stmt} {b : Nat -> SS} {pos' posL posl pos2 : Pos} (hq : X.env.qual ++ "<lambda>" = q)
    (TB : TabB X.base X.mg cc PT) (hcode : X.env.code = .ref cc) (hmT : (PT, X.env.qual ++ "<lambda>") ∈ dl.tabs) (hu : ∀ p ∈ dl.tabs, p.1 = PT -> p.2 = X.env.qual ++ "<lambda>") (L : LamS X.env.scope scope)
    (hbody : ∀ dl2 : Dr X.w X.K X.mg, dl2.tabs = dl.tabs -> ∀ (A : Around) (outer : List Env) (s : Shared) (H : Hp) (E : XK) (fa c' : Addr), Room kk (lamCx X A outer s H E scope fa c').A -> Takes (lamCx X A outer s H E scope fa c') (fun cls d _ H => E cls d H) -> DE (lamCx X A outer s H E scope fa c') dl2 (fun cls d _ H => E cls d H) body f)
    (hbind : ∀ (q : Str) (cl : List (Str × Addr)) (pm cv ctv : Value), bindArgs (PySem.W.kla_fn "<lambda>" q params body scope cl pm cv ctv) ⟨[], []⟩ = pure [])
    (tk : Takes X W) (hN : X.N.Nodup)
    (hrest : ∀ (pn : List (Addr × Obj)) (dl' : Dr X.w X.K X.mg) (n : Nat), dl'.tabs = dl.tabs /\ dl'.act = true -> Takes (X.tr pn X.xe) W -> (∀ m k g, LamAt X dl m k g -> LamAt (X.tr pn X.xe) dl' m k g) -> LamAt (X.tr pn X.xe) dl' n kk f -> DSs (X.tr pn X.xe) dl' W rest (b n))
    (hi : X.N[i]? = some y := by rfl) (hx : Loc X.env.scope y := by first | exact Or.inl rfl | exact Or.inr rfl) (hf : X.fn y = true \/ X.env.scope.names.lookup y = some .local := by first | exact .inl rfl | exact .inr rfl | assumption) (hdef : defaultsOf params X.env = ([], []) := by rfl)
    (hs : swapsWith (.List [.Lambda params body scope posL] posl) (some (.Name y pos')) pos2.line X.env = pure false := by rfl)
    (hse : starEach [.Lambda params body scope posL] X.env = (false, eval (.Lambda params body scope posL) X.env) :: starEach [] X.env := by rfl) :
    DSs X dl W (.Assign [.Name y pos'] (.List [.Lambda params body scope posL] posl) pos2 :: rest) (sLamN i q b) := by
  refine PSs.of (pss_pin (ps_set (i := i) hN hi hx (pe_lst (pa_cons (pe_mkLam (T := dl.tabs) TB hcode hmT hu L hdef) pa_nil hse)) hs hf) (fun pn => pss_exN (Y := X.tr pn X.xe) (P := fun dl' n => LamP X dl kk f pn dl' n) (t := fun dl' n => tS (X.tr pn X.xe) dl' W (b n)) fun dl' n p => hrest pn dl' n ⟨p.tabs, p.act⟩ (Takes.tr tk p.sub) (fun m k g h => h.mono p.sub p.tabs p.ms) p.at_)) fun E sg H qq => ?_
  obtain ⟨F0, H0, F, G, s, w, S, g⟩ := qq
  refine ⟨lam_tabs w, fun H1 em tb fa c' pm ctv hn h0 hco => ⟨by show (1 : Nat) <= sizeLine; decide, fun a ha => ?_⟩⟩
  obtain ⟨F1, st1, w1⟩ := wd_grown w em tb
  have na : a ≠ fa := fun z => by rw [z, upd_same] at ha; cases ha
  have ha1 : H1 a = none := by rw [upd_ne na] at ha; exact ha
  have eH : delH (upd (upd H1 fa (CloO fa (lamObj X params body scope pm c' ctv))) a (.lst [.ref fa])) fa = upd H1 a (.lst [.ref fa]) := by
    funext b
    by_cases z : b = fa
    · rw [z, delH_same, upd_ne (Ne.symm na), hn]
    · rw [delH_ne z]
      by_cases z2 : b = a
      · rw [z2, upd_same, upd_same]
      · rw [upd_ne z2, upd_ne z, upd_ne z2]
  unfold sLamN at g
  by_cases lv : s.live = true
  case neg => simp only [if_neg lv] at g; exact g.elim
  simp only [if_pos lv] at g
  refine ⟨fa, _, by rw [upd_ne (Ne.symm na), upd_same], h0, (fun v z => by cases z), fun pn mp sub => ⟨dl.add (fa, c', noC, [q]), s.objs.length, ⟨rfl, w.ob.1 lv, add_ms, sub, ?_⟩, ?_⟩⟩
  · exact ⟨fa, c', params, body, scope, pm, ctv, by rw [addC_ms w lv fa c' [q], <- hq], mp, L, hbind, hbody⟩
  · rw [eH]
    have w2 : Wd (dl.add (fa, c', noC, [q])) F1 (upd H1 a (.lst [.ref fa])) { s with objs := s.objs ++ [[]] } := (w1.newO ha1).addC lv fa c' [q]
    have S1 : Sim X.K X.mg (dl.add (fa, c', noC, [q])) F0 H0 F1 (upd H1 a (.lst [.ref fa])) sg G := ((S.step st1).step (Step.newO ha1)).addC fa c' [q]
    have rp : Rep X.K X.mg (dl.add (fa, c', noC, [q])) F1 (.mob noC [q] s.objs.length) (.ref fa) := ⟨fa, c', addC_ms w lv fa c' [q], rfl, fun _ q' e => by
      cases e
      rw [<- hq]
      exact codeF w1 hco⟩
    have haH : H a = none := st1.al a ha1
    have Sd : Sim X.K X.mg (dl.add (fa, c', noC, [q])) F0 H0 F H sg G := S.addC fa c' [q]
    have stA : Step (dl.add (fa, c', noC, [q])) F H F1 (upd H1 a (.lst [.ref fa])) := Step.addC (st1.trans (Step.newO ha1)) fa c' [q]
    refine ⟨F0, H0, F1, _, _, w2, S1.putOwn (vs := [.ref fa]) (fun j t _ ej o => Sd.notAt (F1 := F1) (H1 := H1) haH j t ej o) (Sd.notTr stA haH) upd_same (w1.fnone ha1) (S.st.al a haH) (nhas_addC (w1.na ha1)) (by show (1 : Nat) <= sizeLine; decide) (RepL.cons rp RepL.nil), ?_⟩
    have O := w.ob.2 (w.ob.1 lv)
    rw [<- O.len] at g ⊢
    exact GoS.pop (fun b o e => st1.fs b o e) (S.st.al fa (st1.al fa hn)) g
theorem dss_lamA (i : Nat) {y q : Str} {cc PT : Addr} {kk : Nat} {params : Arguments} {body : Expr} {scope : Scope} {f : SE} {rest : List Stmt} {b : Nat -> SS} {posL p ap cp pos : Pos} (hq : X.env.qual ++ "<lambda>" = q)
    (TB : TabB X.base X.mg cc PT) (hcode : X.env.code = .ref cc) (hmT : (PT, X.env.qual ++ "<lambda>") ∈ dl.tabs) (hu : ∀ p ∈ dl.tabs, p.1 = PT -> p.2 = X.env.qual ++ "<lambda>") (L : LamS X.env.scope scope)
    (hbody : ∀ dl2 : Dr X.w X.K X.mg, dl2.tabs = dl.tabs -> ∀ (A : Around) (outer : List Env) (s : Shared) (H : Hp) (E : XK) (fa c' : Addr), Room kk (lamCx X A outer s H E scope fa c').A -> Takes (lamCx X A outer s H E scope fa c') (fun cls d _ H => E cls d H) -> DE (lamCx X A outer s H E scope fa c') dl2 (fun cls d _ H => E cls d H) body f)
    (hbind : ∀ (q : Str) (cl : List (Str × Addr)) (pm cv ctv : Value), bindArgs (PySem.W.kla_fn "<lambda>" q params body scope cl pm cv ctv) ⟨[], []⟩ = pure [])
    (tk : Takes X W)
    (hrest : ∀ (pn : List (Addr × Obj)) (dl' : Dr X.w X.K X.mg) (n : Nat), dl'.tabs = dl.tabs /\ dl'.act = true -> Takes (X.tr pn X.xe) W -> (∀ m k g, LamAt X dl m k g -> LamAt (X.tr pn X.xe) dl' m k g) -> LamAt (X.tr pn X.xe) dl' n kk f -> DSs (X.tr pn X.xe) dl' W rest (b n))
    (hN : X.N[i]? = some y := by rfl) (hv : Vis X.env.scope y := by first | exact Or.inl rfl | exact Or.inr (Or.inl rfl) | exact Or.inr (Or.inr rfl)) (hdef : defaultsOf params X.env = ([], []) := by rfl)
    (hd : (y == ("__debug__" : Str)) = false := by decide) (hcd : (y == ("__classdict__" : Str)) = false := by decide)
    (hbase : attributeBase (.Name y p) "append" X.env (eval (.Name y p) X.env) = eval (.Name y p) X.env := by rfl)
    (hfew : ((backTo cp (starEach [.Lambda params body scope posL] X.env)).all (fun x => !x.1) && (backToKw cp (keywordEach [] X.env)).all (fun x => x.1.isSome)
      && decide (([.Lambda params body scope posL] : List Expr).length + ([] : List Keyword).length + (if ([] : List Keyword).isEmpty then 0 else 1) < 30)) = true := by rfl)
    (hline : (ap.endLine == cp.line) = true := by rfl) (hse : starEach [.Lambda params body scope posL] X.env = (false, eval (.Lambda params body scope posL) X.env) :: starEach [] X.env := by rfl)
    (hs : swapsWith (.Call (.Attribute (.Name y p) "append" ap) [.Lambda params body scope posL] [] cp) none pos.line X.env = pure false := by rfl) :
    DSs X dl W (.Expr (.Call (.Attribute (.Name y p) "append" ap) [.Lambda params body scope posL] [] cp) pos :: rest) (sLamA i q b) := by
  refine PSs.of (pss_pin (ps_expr (pe_bm PySem.F.plainAttrs_list PySem.F.slot_list_append PySem.F.type_list_append mt_append (pe_var (i := i) hN hv hd hcd) (pa_cons (pe_mkLam (T := dl.tabs) TB hcode hmT hu L hdef) pa_nil hse) hbase hfew hline hse rfl) hs)
    (fun pn => pss_exN (Y := X.tr pn X.xe) (P := fun dl' n => LamP X dl kk f pn dl' n) (t := fun dl' n => tS (X.tr pn X.xe) dl' W (b n)) fun dl' n p => hrest pn dl' n ⟨p.tabs, p.act⟩ (Takes.tr tk p.sub) (fun m k g h => h.mono p.sub p.tabs p.ms) p.at_)) fun E sg H qq => ?_
  obtain ⟨F0, H0, F, G, s, w, S, g⟩ := qq
  unfold sLamA at g
  cases ei : G[i]? with
  | none => simp only [ei] at g; exact g.elim
  | some o =>
    cases o with
    | none => simp only [ei] at g; exact g.elim
    | some sl =>
      cases sl with
      | fz _ => simp only [ei] at g; exact g.elim
      | ini _ _ _ => simp only [ei] at g; exact g.elim
      | ownX _ _ => simp only [ei] at g; exact g.elim
      | ownP pp _ _ => simp only [ei] at g; exact g.elim
      | tree _ => simp only [ei] at g; exact g.elim
      | own ds =>
        simp only [ei] at g
        by_cases hlv : s.live = true /\ ds.length < sizeLine
        case neg => simp only [if_neg hlv] at g; exact g.elim
        simp only [if_pos hlv] at g
        obtain ⟨lv, hl⟩ := hlv
        obtain ⟨v, k1, a, vs, rfl, m2, m3, m4, m5, m6, m7⟩ := S.sl i _ ei
        refine ⟨.ref a, k1, .inl ⟨rfl, _, SqL.of m2⟩, lam_tabs w, fun H1 em tb fa c' pm ctv hn h0 hco => ?_⟩
        obtain ⟨F1, st1, w1⟩ := wd_grown w em tb
        have S1 := S.step st1
        obtain ⟨v', k1', b', us, eb, n2, n3, n4, n5, n6, n7⟩ := S1.sl i _ ei
        rw [k1] at k1'
        cases k1'
        cases eb
        have na : a ≠ fa := fun z => by rw [z, hn] at n2; cases n2
        have eH : delH (upd (upd H1 fa (CloO fa (lamObj X params body scope pm c' ctv))) a (.lst (us ++ [.ref fa]))) fa = upd H1 a (.lst (us ++ [.ref fa])) := by
          funext b
          by_cases z : b = fa
          · rw [z, delH_same, upd_ne (Ne.symm na), hn]
          · rw [delH_ne z]
            by_cases z2 : b = a
            · rw [z2, upd_same, upd_same]
            · rw [upd_ne z2, upd_ne z, upd_ne z2]
        rw [n7.length] at hl
        refine ⟨a, us, _, rfl, rfl, by rw [upd_ne na]; exact n2, hl, ?_⟩
        refine ⟨fa, _, by rw [upd_ne (Ne.symm na), upd_same], h0, (fun v z => by cases z), fun pn mp sub => ⟨dl.add (fa, c', noC, [q]), s.objs.length, ⟨rfl, w.ob.1 lv, add_ms, sub, ?_⟩, ?_⟩⟩
        · exact ⟨fa, c', params, body, scope, pm, ctv, by rw [addC_ms w lv fa c' [q], <- hq], mp, L, hbind, hbody⟩
        · rw [eH]
          have rp : Rep X.K X.mg (dl.add (fa, c', noC, [q])) F1 (.mob noC [q] s.objs.length) (.ref fa) := ⟨fa, c', addC_ms w lv fa c' [q], rfl, fun _ q' e => by
            cases e
            rw [<- hq]
            exact codeF w1 hco⟩
          have wC : Wd (dl.add (fa, c', noC, [q])) F1 H1 { s with objs := s.objs ++ [[]] } := w1.addC lv fa c' [q]
          have SC : Sim X.K X.mg (dl.add (fa, c', noC, [q])) F0 H0 F1 H1 sg G := S1.addC fa c' [q]
          have n7' : RepL X.K X.mg (dl.add (fa, c', noC, [q])) F1 ds us := RepL.re (dl := dl) (ok := fun _ => true) (dl' := dl.add (fa, c', noC, [q])) rfl (fun i e _ h => add_ms i e h) _ _ (clFs_true _) n7
          refine ⟨F0, H0, F1, _, _, wC.setO n3 (nhas_addC n5), SC.setOwn (vs' := us ++ [.ref fa]) ei k1 (by simp; omega) (n7'.append (RepL.cons rp RepL.nil)), ?_⟩
          have O := w.ob.2 (w.ob.1 lv)
          rw [<- O.len] at g ⊢
          exact GoS.pop (fun b o e => st1.fs b o e) (S.st.al fa (st1.al fa hn)) g
end
end
section
def clK (tbl : List (Nat × SE)) : D -> Option SE
  | .mob c _ n => if c = noC then tbl.lookup n else none
  | _ => none
theorem clK_some {tbl : List (Nat × SE)} {d : D} {f : SE} (ek : clK tbl d = some f) : ∃ ns n, d = .mob noC ns n /\ tbl.lookup n = some f := by
  cases d with
  | mob c ns n =>
    have ek : (if c = noC then tbl.lookup n else none) = some f := ek
    by_cases z : c = noC
    · rw [if_pos z] at ek
      exact ⟨ns, n, by rw [z], ek⟩
    · rw [if_neg z] at ek
      cases ek
  | _ => cases ek
theorem tbl_nil {X : Cx} {dl : Dr X.w X.K X.mg} {kk : Nat} : ∀ n f, ([] : List (Nat × SE)).lookup n = some f -> LamAt X dl n kk f := fun _ _ e => by cases e
theorem tbl_cons {X : Cx} {dl : Dr X.w X.K X.mg} {kk m : Nat} {g : SE} {t : List (Nat × SE)} (h : LamAt X dl m kk g) (ht : ∀ n f, t.lookup n = some f -> LamAt X dl n kk f) : ∀ n f, ((m, g) :: t).lookup n = some f -> LamAt X dl n kk f := fun n f e => by
  rw [List.lookup_cons] at e
  by_cases z : n = m
  · subst z
    rw [beq_self_eq_true] at e
    cases e
    exact h
  · have z : (n == m) = false := by simpa using z
    rw [z] at e
    exact ht n f e
section
variable {X : Cx} {dl : Dr X.w X.K X.mg} {pins : List (Addr × Obj)} {σ : L2.St} {H : Hp} {s : Shared}
theorem pin_fr (I : Inv X pins σ H s) {fa : Addr} {ob : Obj} (m : (fa, ob) ∈ X.pn) : s.heap.get? fa = some ob /\ H fa = none /\ fa ∉ frs X.stack := by
  obtain ⟨h1, h2, h3, h4, _⟩ := I.pin (fa, ob) (List.mem_append_left _ m)
  refine ⟨h1, h2, fun z => ?_⟩
  rcases List.mem_cons.mp (I.stkSub _ z) with e | e
  · exact h3 e
  · exact h4 e
theorem tcaught_of {W' : XK'} {CS : Addr} {kx : List Str} {f : SE} {F0 H0 F : Hp} {sg : L2.St} {G : Sls} {s : DS} {Q : VK} (hkx : ∀ z ∈ kx, ∃ C, X.mg z = some (.ref C) /\ PySem.W.exmOne X.K (.ref C) (.ref CS) = some true)
    (w : Wd dl F H s) (S : Sim X.K X.mg dl F0 H0 F H sg G) (g : Go X.mg X.K dl W' F H (gCaught kx f G s) fun a _ F' H' => ∀ v, Rep X.K X.mg dl F' a v -> Q v H') :
    TCaught X.K CS (fun E H' Q' => tD X dl (fun cls d _ H => E cls d H) f sg H' Q') H Q := by
  refine ⟨F, F0, H0, G, s, w, S, ?_⟩
  unfold gCaught at g
  cases e : f G s with
  | none => rw [e] at g; exact g.elim
  | some r =>
    obtain ⟨r, s2⟩ := r
    rw [e] at g
    cases r with
    | ok d => exact fun F2 H2 st2 w2 v _ => ⟨.non, rfl, g F2 H2 st2 w2 .non rfl⟩
    | err y =>
      have g : Go X.mg X.K dl W' F H (if kx.contains y.cls then some (Res.ok (D.exc y.cls y.ns y.xs), s2) else none) (fun a _ F' H' => ∀ v, Rep X.K X.mg dl F' a v -> Q v H') := g
      cases hc : kx.contains y.cls with
      | false => rw [hc] at g; exact g.elim
      | true =>
        rw [hc] at g
        intro F2 H2 cls d st2 w2 xr
        obtain ⟨C, x1, x2, x3⟩ := xr
        obtain ⟨C', m1, m2⟩ := hkx y.cls (by simpa using hc)
        rw [x1] at m1
        cases m1
        subst x2
        refine ⟨m2, fun e he => ?_⟩
        refine g (upd F2 e (ExK e (.ref C) d)) (upd H2 e (ExK e (.ref C) d)) (st2.trans (Step.new w2 he)) (w2.new he ExK_nt) _ ?_
        have mo := (Step.new (o := ExK e (.ref C) d) w2 he).fs
        rcases x3 with ⟨n1, n2, n3⟩ | ⟨n1, da, vs, n2, n3, n4, n5⟩
        · subst n3
          exact ⟨e, C, [], rfl, x1, by rw [n1]; rfl, .inl ⟨n1, upd_same⟩, by rw [n2]; rfl⟩
        · subst n2
          exact ⟨e, C, vs, rfl, x1, n4, .inr ⟨da, n1, upd_same, mo _ _ n3⟩, RepL.mono mo _ _ n5⟩
end
end
section
def ItemAt (X : Cx) (pins : List (Addr × Obj)) (σ : L2.St) (elt : Expr) (scope : Scope) (vs : List Nat) (te : TE) : Prop :=
  ∀ (s1 : Shared) (H1 : Hp) (C : Addr) (cl : List (Str × Addr)) (fp : List Addr), Inv X pins σ H1 s1 -> (∀ b ∈ fp, FpOk X pins H1 b) ->
    ∀ (pz : List (Addr × Obj)) (sz : Shared) (σz : L2.St) (Hz : Hp) (Qz : VK), L2.wipe σz vs = L2.wipe σ vs -> Inv (X.blk s1 H1 scope (compEnvC scope cl C X.env) fp) pz σz Hz sz -> te σz Hz Qz ->
      wpAny (model X.prog X.w) X.A (eval elt (compEnvC scope cl C X.env)) (EP (X.blk s1 H1 scope (compEnvC scope cl C X.env) fp) pz σz Qz) (fun _ _ => False) sz
section
variable {X : Cx}
theorem pe_lcJ {elt tg iter : Expr} {ifs : List Expr} {scope : Scope} {own : List (Str × Nat)} {pos : Pos} {wi : TI} {g : TG} {tt : TT} {te : TE} (hcalm : X.calm = true) (hnd : X.N.Nodup) (hit : PI X tg iter wi) (hblk : BlkOk X.N X.env.scope scope own)
    (hst : ∀ (s : Shared) (H : Hp) (C : Addr) (cl : List (Str × Addr)) (fp : List Addr), PG (X.blk s H scope (compEnvC scope cl C X.env) fp) tg g) (hte : ∀ (s : Shared) (H : Hp) (C : Addr) (cl : List (Str × Addr)) (fp : List Addr), PTs (X.blk s H scope (compEnvC scope cl C X.env) fp) ifs tt)
    (hel : ∀ pins σ, ItemAt X pins σ elt scope (own.map (·.2)) te) (hfs : ∀ x, foldedSetIterable iter X.env x = pure x := by intro _; rfl) :
    PE X (.ListComp elt [⟨tg, iter, ifs, 0⟩] scope pos) (tLc wi g tt te (own.map (·.2))) := by
  refine ⟨fun pins s σ H Q J hread => ?_⟩
  rw [eval_ListComp]
  have cellThere : ∀ y ∈ scope.names, y.2 = .free -> ∃ c, X.env.cells.lookup y.1 = some c := fun y hy e => by
    rcases hblk.free y hy e with z | z
    · exact J.ok.has _ (.inl z)
    · exact J.ok.has _ (.inr z)
  refine wpAny_comprehension_free (use := none) rfl hfs (closure_ok cellThere) hblk.kind (fun y hy e => by rw [hblk.uniq y hy, e]) ?_
  refine thn (hit.run pins s σ H _ J hread) fun xv s1 hx => thn hx fun itv s2 hh2 => ?_
  obtain ⟨it, fp, tn, Jt, Ha, eit, Ja, TN, tn2, fok2, rd⟩ := hh2
  subst eit
  refine wpAny_newObj_type (newEnv_comp ?_) (by show 0 <= sizeLine; decide)
  generalize hL : s2.heap.objs.size = Ls
  have lsNone : Ha Ls = none := Ja.hok.fresh (Nat.le_of_eq hL)
  obtain ⟨Wv, ⟨k0, start⟩, lap⟩ := rd Ls lsNone
  generalize e3 : ({ s2 with heap := s2.heap.push { cls := .type "list", data := .seq ([] : List Value).toArray } } : Shared) = s3
  have hp3 : s3.heap = s2.heap.push { cls := .type "list", data := .seq ([] : List Value).toArray } := by rw [<- e3]
  have Jb : Inv X pins σ (upd Ha Ls (.lst [])) s3 := by
    rw [<- e3]
    refine Ja.laid (t' := s2.toks) (fun c u e => Heap.get?_push_of_some _ e) (Nat.le_of_eq hL) ⟨Nat.zero_le _, [], 0, .nil, ?_⟩
    rw [<- hL]
    exact Heap.get?_push_size _ rfl
  have small : ∀ c ∈ fp, c < s2.heap.objs.size := fun c hc => by
    obtain ⟨u, e, _⟩ := TN.obj _ _ tn2 c hc
    exact Heap.lt_size e
  have fok3 : ∀ c ∈ fp, FpOk X pins (upd Ha Ls (.lst [])) c /\ c < s3.heap.objs.size := fun c hc => by
    have lt := small c hc
    refine ⟨⟨?_, (fok2 c hc).2⟩, by rw [hp3, Heap.size_push]; exact Nat.lt_succ_of_lt lt⟩
    rw [upd_ne (by rw [<- hL]; exact Nat.ne_of_lt lt)]
    exact (fok2 c hc).1
  have tn3 : tn 0 s3.heap := TN.keep _ _ _ tn2 fun c _ u e => by rw [hp3]; exact Heap.get?_push_of_some _ e
  have Jc := block_start Jb hblk hnd fok3
  generalize eH : upd Ha Ls (.lst []) = Hb at Jb Jc fok3 start
  have free3 : ∀ c ∈ fp, Hb c = none := fun c hc => (fok3 c hc).1.1
  have stG := hst s3 Hb s3.heap.objs.size (cellsFrom (s3.heap.objs.size + 1) scope.names (cloFrom X.env.cells scope.names [])) fp
  have teG := hte s3 Hb s3.heap.objs.size (cellsFrom (s3.heap.objs.size + 1) scope.names (cloFrom X.env.cells scope.names [])) fp
  have elG := hel pins σ s3 Hb s3.heap.objs.size (cellsFrom (s3.heap.objs.size + 1) scope.names (cloFrom X.env.cells scope.names [])) fp Jb fun c hc => (fok3 c hc).1
  show codeAny _ _ (.compStart (.ListComp elt [⟨tg, iter, ifs, 0⟩] scope pos) 0 (.ref it) (.ref Ls) (compEnvC scope (cellsFrom (s3.heap.objs.size + 1) scope.names (cloFrom X.env.cells scope.names [])) s3.heap.objs.size X.env)) (compPost (model X.prog X.w) X.A X.xe none _ (.ref Ls) s3.heap.objs.size) { s3 with heap := pushCells (s3.heap.push { cls := .type "dict", data := .dict #[] }) scope.names }
  generalize env' : compEnvC scope (cellsFrom (s3.heap.objs.size + 1) scope.names (cloFrom X.env.cells scope.names [])) s3.heap.objs.size X.env = ez at Jc stG teG elG ⊢
  have locZ : ez.locals = s3.heap.objs.size := by subst env'; rfl
  generalize e4 : ({ s3 with heap := pushCells (s3.heap.push { cls := .type "dict", data := .dict #[] }) scope.names } : Shared) = s4 at Jc ⊢
  have tn4 : tn 0 s4.heap := TN.keep _ _ _ tn3 fun c _ u e => by rw [<- e4]; exact pushCells_keeps _ _ _ _ (Heap.get?_push_of_some _ e)
  have fpZ : ∀ {σ' : L2.St} {H' : Hp} {s' : Shared}, Inv (X.blk s3 Hb scope ez fp) [] σ' H' s' -> (∀ c ∈ fp, H' c = none) -> ∀ c ∈ fp, FpOk (X.blk s3 Hb scope ez fp) [] H' c := fun {σ' H' s'} K hn c hc =>
    ⟨hn c hc, (K.ok.exf c hc).1, K.ok.exfs c hc, .inl hc, fun x c2 e => (K.ok.exf c hc).2 x c2 e, fun p hp => absurd (show p ∈ ([] : List (Addr × Obj)) ++ [] from hp) (by simp)⟩
  refine codeAny_compStart_list ?_ (TN.self X.A 0 _ _ _ tn4 ?_) <;> (
    refine compLoop_any (fun k sx => ∃ i Hx, Inv (X.blk s3 Hb scope ez fp) [] (wipe σ (own.map (·.2))) Hx sx /\ tn i sx.heap /\ (∀ c ∈ fp, Hx c = none) /\ Wv i k Hx) ?_ k0 ⟨0, Hb, Jc, tn4, free3, start⟩
    rintro k sx ⟨i, Hx, Jx, tnx, nx, wx⟩
    rcases lap i k Hx wx with ⟨stop, done⟩ | ⟨goes, Nxt, less, stepR⟩
    · refine thnF (TN.done (X.blk s3 Hb scope ez fp) rfl rfl rfl hcalm i [] sx _ Hx (fun _ _ => False) Jx (fpZ Jx nx) tnx stop) fun r s6 ⟨hr, J6⟩ => ?_
      subst hr
      have Jend : Inv X pins σ Hx s6 := Jb.call' (ch := fp) J6.os J6.base J6.hok J6.bare fun c hc => ⟨(fok3 c hc).1.2.2.2.1, (fok3 c hc).1.2.1, (fok3 c hc).1.2.2.2.2.1, (fok3 c hc).1.2.2.2.2.2⟩
      have noneC : Hx s3.heap.objs.size = none := by
        have z : Hx ez.locals = none := J6.free
        rw [locZ] at z
        exact z
      obtain ⟨mm, hns, _⟩ := J6.loc
      have hns : s6.heap.Ns ez.locals mm := hns
      rw [locZ] at hns
      obtain ⟨a0, a1, a2, a3, a4, a5⟩ := Jb.fpOk (Nat.le_refl s3.heap.objs.size) noneC
      exact ⟨mm, hns, fun hz sb => ⟨.ref Ls, Hx, Jend.turned (t' := s6.toks) (fun c u hc e => (sb.2 c hc).trans e) a0 a1 a3 a4 a5, rfl, done⟩⟩
    · refine thnF (TN.item (X.blk s3 Hb scope ez fp) rfl rfl rfl hcalm i [] sx _ Hx (fun _ _ => False) Jx (fpZ Jx nx) tnx goes) fun r s6 ⟨u, hr, nxt⟩ => ?_
      subst hr
      refine thnF nxt fun _ s7 ⟨x, H7, J7, r7, y7, tn7, n7⟩ => ?_
      have J7p := J7.pinned (fpZ J7 n7) (TN.obj _ _ tn7)
      refine thnF (stG.run _ s7 _ H7 x u _ J7p r7 (stepR x H7 y7)) fun _ s8 ⟨σ8, H8, J8, wp8, q8⟩ => ?_
      refine thnF (teG.run _ s8 σ8 H8 _ J8 q8) fun yes s9 ⟨H9, J9, q9⟩ => ?_
      have lapEnd : ∀ {s' : Shared} {H' : Hp}, Inv (X.blk s3 Hb scope ez fp) ([] ++ pinsAt fp s7.heap) σ8 H' s' -> Nxt H' -> ∃ m, m < k /\ ∃ j Hy, Inv (X.blk s3 Hb scope ez fp) [] (wipe σ (own.map (·.2))) Hy s' /\ tn j s'.heap /\ (∀ c ∈ fp, Hy c = none) /\ Wv j m Hy := fun {s' H'} K nn => by
        obtain ⟨m', hm, w'⟩ := less H' nn
        have kept : ∀ c ∈ fp, ∀ o, s7.heap.get? c = some o -> s'.heap.get? c = some o /\ H' c = none := fun c hc o e =>
          let z := K.pin (c, o) (List.mem_append_right _ (List.mem_append_right _ (mem_pinsAt hc e)))
          ⟨z.1, z.2.1⟩
        have len8 : (wipe σ (own.map (·.2))).length = σ8.length := by rw [<- wp8, wipe_length]
        refine ⟨m', hm, i + 1, H', (K.unpinned (pins := [])).weak len8 (fun j v e => ?_), TN.keep _ _ _ tn7 fun c hc o e => (kept c hc o e).1, fun c hc => ?_, w'⟩
        · rw [<- wp8] at e
          exact (wipe_some e).1
        · obtain ⟨o, e, _⟩ := TN.obj _ _ tn7 c hc
          exact (kept c hc o e).2
      cases yes with
      | false =>
        simp only [Bool.false_eq_true, if_false] at q9 ⊢
        exact lapEnd J9 q9
      | true =>
        simp only [if_true] at q9 ⊢
        refine thnF (elG _ s9 σ8 H9 _ wp8 J9 q9) fun z s10 ⟨yv, H10, J10, r10, acc, hacc, hsmall, nn⟩ => ?_
        exact app_ok (X := X.blk s3 Hb scope ez fp) J10 hacc hsmall r10 fun s11 J11 => lapEnd J11 nn)
end
end
section
def jobF (vs : List Nat) (j : Nat) (tbl : List (Nat × SE)) (one : SE -> SE) : SE := fun G => match G[j]? with
  | some (some (.fz d)) => (match clK tbl d with
    | some f => one f (wipeG G vs)
    | none => fail)
  | _ => fail
theorem Sim.rewipe {K : PySem.W.Frag} {mg : Str -> Option Value} {wd : World} {dl : Dr wd K mg} {F0 H0 F H : Hp} {sz sg : L2.St} {G : Sls} {vs : List Nat} (S : Sim K mg dl F0 H0 F H sz G) (e : L2.wipe sz vs = L2.wipe sg vs) : Sim K mg dl F0 H0 F H sg (wipeG G vs) := by
  have S1 := S.wipe vs
  rw [e] at S1
  have key : ∀ (i : Nat) (x : Sl), (wipeG G vs)[i]? = some (some x) -> sg[i]? = (L2.wipe sg vs)[i]? := fun i x h => (wipe_keep (wipeG_some h).2).symm
  refine ⟨by rw [S1.len, wipe_length], fun i s h => ?_, fun i j s t e1 e2 o1 o2 e3 => ?_, S1.st, ?_⟩
  · rw [key i s h]
    exact S1.sl i s h
  · rw [key i s e1, key j t e2] at e3
    exact S1.dis i j s t e1 e2 o1 o2 e3
  · obtain ⟨fp, T⟩ := S1.tr
    refine ⟨fp, fun i t h => ?_, T.dj, fun i j t s a ei ej o es => ?_⟩
    · rw [key i _ h]
      exact T.at_ i t h
    · rw [key j s ej] at es
      exact T.nx i j t s a ei ej o es
theorem tcaught_to {X : Cx} {dl : Dr X.w X.K X.mg} {H : Hp} {W' : XK'} {CS : Addr} {kx : List Str} {f : SE} {F0 H0 F : Hp} {sg : L2.St} {G : Sls} {s : DS} {Q' : V -> Hp -> Prop} {k : D -> DS -> Hp -> Hp -> Prop} (hkx : ∀ z ∈ kx, ∃ C, X.mg z = some (.ref C) /\ PySem.W.exmOne X.K (.ref C) (.ref CS) = some true)
    (w : Wd dl F H s) (S : Sim X.K X.mg dl F0 H0 F H sg G) (g : Go X.mg X.K dl W' F H (gCaught kx f G s) k) (hk : ∀ a F2 H2 s2 v, Wd dl F2 H2 s2 -> Rep X.K X.mg dl F2 a v -> k a s2 F2 H2 -> Q' v H2) :
    TCaught X.K CS (fun E H' Q' => tD X dl (fun cls d _ H => E cls d H) f sg H' Q') H Q' :=
  tcaught_of hkx w S (g.imp fun a s2 F2 H2 st2 w2 z v rv => hk a F2 H2 s2 v w2 rv z)
section
variable {X : Cx} {dl : Dr X.w X.K X.mg} {pins : List (Addr × Obj)} {σ : L2.St} {H : Hp} {s : Shared}
theorem clo_word {kk : Nat} {x y a ke b er : Str} {Nr : List Str} {stw : Stmt} {fdw : FuncData} {br : SS} {fa c' : Addr} {params : Arguments} {body : Expr} {scope : Scope} {pm ctv : Value} {f : SE} {Q : VK} (I : Inv X pins σ H s) (T : CaughtF X.K X.mg y a ke)
    (FW : FunD X.K x x (defArgs stw) (defBody stw) (defScope stw) [] [] (He.ga X.K x) fdw) (hbW : Binds X.K fdw [b] []) (SW : FnScope (b :: er :: Nr) [b] (defScope stw))
    (hst : ∃ q1 p1 p2 p3 q2, defBody stw = .Assign [.Name er q1] (.Call (.Name y p1) [.Name b p2] [] p3) q2 :: (defBody stw).tail) (hr : Room (kk + 3) X.A)
    (m : (fa, lamObj X params body scope pm c' ctv) ∈ X.pn) (L : LamS X.env.scope scope) (hbind : ∀ (q : Str) (cl : List (Str × Addr)) (pm cv ctv : Value), bindArgs (PySem.W.kla_fn "<lambda>" q params body scope cl pm cv ctv) ⟨[], []⟩ = pure [])
    (hbody : ∀ (A : Around) (outer : List Env) (s : Shared) (H : Hp) (E : XK) (fa c' : Addr), Room kk (lamCx X A outer s H E scope fa c').A -> Takes (lamCx X A outer s H E scope fa c') (fun cls d _ H => E cls d H) -> DE (lamCx X A outer s H E scope fa c') dl (fun cls d _ H => E cls d H) body f)
    (hrest : ∀ (cdw : Value) (s : Shared) (H : Hp), Room (kk + 2) (cxOf C8.CX0 X.prog X.w X.K X.mg X.base (b :: er :: Nr) x (defScope stw) (He.ga X.K x) cdw X.A X.stack s H C8.E0).A -> DSs (cxOf C8.CX0 X.prog X.w X.K X.mg X.base (b :: er :: Nr) x (defScope stw) (He.ga X.K x) cdw X.A X.stack s H C8.E0).nox dl (fun _ _ _ _ => False) (defBody stw).tail br)
    (hco : H c' = some (CodeO c' (X.env.qual ++ "<lambda>"))) (ht : TWord X dl (He.ga X.K ke) (b :: er :: Nr) br fa (fun E H' Q' => tD X dl (fun cls d _ H => E cls d H) f σ H' Q') H Q)
    (hvb : Vis (defScope stw) b := by exact Or.inl rfl) (her : (defScope stw).names.lookup er = some .local := by rfl) (hgy : (defScope stw).names.lookup y = some .globalImplicit := by rfl)
    (hdy : (y == ("__debug__" : Str)) = false := by decide) (hd : (a == ("__debug__" : Str)) = false := by decide) (hcd : (a == ("__classdict__" : Str)) = false := by decide) (hdw : (b == ("__debug__" : Str)) = false := by decide) (hcdw : (b == ("__classdict__" : Str)) = false := by decide) :
    codeAny (model X.prog X.w) X.A (.call (.ref (He.ga X.K x)) ⟨[.ref fa], []⟩) (CR C8.CX0 X.stack X.prog X.w H s Q C8.E0) s := by
  obtain ⟨fd, pg, sg, c, n, j, r1', r2', r3', t1, t2, t3, t4, t5, t6, t7, t8, t9, u1, u2, F, hb, Sg, va, gx, gk, s1, s2, s3, s4, s5, s6, s7, s8, s9⟩ := T.ex
  have kpy := F.kp
  obtain ⟨oc, od, dV, kV, doc, pm', an, cdv, ct, osl, rfl, lk, hcd2, _, _⟩ := F.ex
  obtain ⟨ocw, odw, dVw, kVw, docw, pmw, anw, cdw, ctw, oslw, rfl, lkw, hcdw2, _, _⟩ := FW.ex
  obtain ⟨hf, hfn, hfr⟩ := pin_fr I m
  refine run_ofS (N := b :: er :: Nr) (ps := [b]) (us := [.ref fa]) (vs := [.ref fa]) lkw hcdw2 SW hr I.env0 (hbW s [.ref fa] I.kIn rfl) (.cons rfl .nil) rfl fun hr' => ?_
  obtain ⟨q1, p1, p2, p3, q2, hst⟩ := hst
  have act : ∀ p1 p2 p3 : Pos, PE (cxOf C8.CX0 X.prog X.w X.K X.mg X.base (b :: er :: Nr) x (defScope stw) (He.ga X.K x) cdw X.A X.stack s H C8.E0).nox (.Call (.Name y p1) [.Name b p2] [] p3) (fun σW HW Q => σW[0]? = some (some (.ref fa)) /\ HW c' = some (CodeO c' (X.env.qual ++ "<lambda>")) /\ TCaught X.K (He.ga X.K ke) (fun E H' Q' => tD X dl (fun cls d _ H => E cls d H) f σ H' Q') HW Q) := fun p1 p2 p3 =>
    pe_caughtvar (k := kk) (tka := fun E => tD X dl (fun cls d _ H => E cls d H) f) I L hf hfn hfr (hbind _ _ _ _ _) hgy gx kpy lk hcd2 hb Sg rfl va (caught_gives s1 gk s2 s3 s4 s5 s6 s7 s8 s9) rfl hvb hr' (fun A outer st H Ev hr2 => hbody A outer st H Ev fa c' hr2 (takes_of rfl rfl rfl rfl)) hdy hd hcd hdw hcdw
  have all : ∃ t, PSs (cxOf C8.CX0 X.prog X.w X.K X.mg X.base (b :: er :: Nr) x (defScope stw) (He.ga X.K x) cdw X.A X.stack s H C8.E0).nox (defBody stw) t /\ t { nx := fun _ H' => Q .non H', rt := Q } (L2.start (b :: er :: Nr) [.ref fa]) H := by
    rw [hst]
    exact ⟨_, pss_cons (ps_set (i := 1) SW.nd rfl (Or.inl her) (act p1 p2 p3)) (hrest cdw s H hr'), rfl, hco, ht⟩
  obtain ⟨t', ht', hq'⟩ := all
  exact ⟨t', ht'.nox, hq'⟩
end
section
variable {X : Cx} {dl : Dr X.w X.K X.mg} {W : WX}
theorem blk_back {pins pz : List (Addr × Obj)} {σ σz : L2.St} {H1 Hz : Hp} {s1 sz : Shared} {scope : Scope} {ez : Env} {fp : List Addr} (J0 : Inv X pins σ H1 s1) (hfp : ∀ b ∈ fp, FpOk X pins H1 b) (Jz : Inv (X.blk s1 H1 scope ez fp) pz σz Hz sz) : Inv X pins σ Hz sz :=
  J0.call' (ch := fp) Jz.os Jz.base Jz.hok Jz.bare fun b hb => ⟨(hfp b hb).2.2.2.1, (hfp b hb).2.1, (hfp b hb).2.2.2.2.1, (hfp b hb).2.2.2.2.2⟩
theorem item_word {kx : List Str} {kk : Nat} {x y a ke b er jn : Str} {Nr : List Str} {j : Nat} {own : List (Str × Nat)} {tbl : List (Nat × SE)} {stw : Stmt} {fdw : FuncData} {br : SS} {p jp pos : Pos} {scope : Scope} (T : CaughtF X.K X.mg y a ke)
    (FW : FunD X.K x x (defArgs stw) (defBody stw) (defScope stw) [] [] (He.ga X.K x) fdw) (gw : X.mg x = some (.ref (He.ga X.K x))) (hbW : Binds X.K fdw [b] []) (SW : FnScope (b :: er :: Nr) [b] (defScope stw))
    (hst : ∃ q1 p1 p2 p3 q2, defBody stw = .Assign [.Name er q1] (.Call (.Name y p1) [.Name b p2] [] p3) q2 :: (defBody stw).tail)
    (hkx : ∀ z ∈ kx, X.mg z = some (.ref (He.ga X.K z)) /\ PySem.W.exmOne X.K (.ref (He.ga X.K z)) (.ref (He.ga X.K ke)) = some true)
    (hr : Room (kk + 3) X.A) (htbl : ∀ n f, tbl.lookup n = some f -> LamAt X dl n kk f) (hN : X.N[j]? = some jn)
    (hrest : ∀ (cdw : Value) (s : Shared) (H : Hp), Room (kk + 2) (cxOf C8.CX0 X.prog X.w X.K X.mg X.base (b :: er :: Nr) x (defScope stw) (He.ga X.K x) cdw X.A X.stack s H C8.E0).A -> DSs (cxOf C8.CX0 X.prog X.w X.K X.mg X.base (b :: er :: Nr) x (defScope stw) (He.ga X.K x) cdw X.A X.stack s H C8.E0).nox dl (fun _ _ _ _ => False) (defBody stw).tail br)
    (hgz : ∀ (s : Shared) (H : Hp) (C : Addr) (cl : List (Str × Addr)) (fp : List Addr), Gl (X.blk s H scope (compEnvC scope cl C X.env) fp) x := by intro _ _ _ _ _; rfl)
    (hvz : ∀ (s : Shared) (H : Hp) (C : Addr) (cl : List (Str × Addr)) (fp : List Addr), Vis (X.blk s H scope (compEnvC scope cl C X.env) fp).env.scope jn := by intro _ _ _ _ _; first | exact Or.inl rfl | exact Or.inr (Or.inl rfl) | exact Or.inr (Or.inr rfl))
    (hvb : Vis (defScope stw) b := by exact Or.inl rfl) (her : (defScope stw).names.lookup er = some .local := by rfl) (hgy : (defScope stw).names.lookup y = some .globalImplicit := by rfl)
    (hdb : (x == ("__debug__" : Str)) = false := by decide) (hdy : (y == ("__debug__" : Str)) = false := by decide) (hd : (a == ("__debug__" : Str)) = false := by decide) (hcd : (a == ("__classdict__" : Str)) = false := by decide) (hdj : (jn == ("__debug__" : Str)) = false := by decide) (hcj : (jn == ("__classdict__" : Str)) = false := by decide)
    (hdw : (b == ("__debug__" : Str)) = false := by decide) (hcdw : (b == ("__classdict__" : Str)) = false := by decide) (pins : List (Addr × Obj)) (σ : L2.St) :
    ItemAt X pins σ (.Call (.Name x p) [.Name jn jp] [] pos) scope (own.map (·.2)) (tD X dl WF (jobF (own.map (·.2)) j tbl fun f => gWord kx f (Nr.length + 2) br)) := by
  have kpw := FW.kp
  intro s1 H1 C cl fp J0 hfp pz sz σz Hz Q hw Jz q
  obtain ⟨F, F0, H0, G, s0, w, S, g⟩ := q
  unfold jobF at g
  cases ei : G[j]? with
  | none => simp only [ei] at g; exact g.elim
  | some o =>
    cases o with
    | none => simp only [ei] at g; exact g.elim
    | some sl =>
      cases sl with
      | fz d =>
        simp only [ei] at g
        cases ek : clK tbl d with
        | none => rw [ek] at g; exact g.elim
        | some f =>
          rw [ek] at g
          obtain ⟨ns, n, rfl, el⟩ := clK_some ek
          obtain ⟨v, k1, a', dx, k2, rfl, k3⟩ := S.sl j _ ei
          obtain ⟨fa, c', params, body, lsc, pm, ctv, l1, l2, l3, l4, l5⟩ := (htbl n f el).ex
          rw [l1] at k2
          cases k2
          refine wpAny_Call_Name_kw (ld_glob Jz (hgz s1 H1 C cl fp) gw ?_ hdb)
          refine PySem.W.callWith_K (h₀ := X.base) Jz.ok.mod.kin kpw ?_ (by rfl) (by rfl)
          show wpAny _ _ (spliced ((false, eval (.Name jn jp) _) :: backTo pos (starEach [] _))) _ _ sz
          refine Calls.spliced_cons (thn ((pe_var (X := X.blk s1 H1 scope (compEnvC scope cl C X.env) fp) (pos := jp) (i := j) hN (hvz s1 H1 C cl fp) hdj hcj).run pz sz σz Hz (fun v Hv => v = .ref a' /\ Hv = Hz) Jz ⟨_, k1, rfl, rfl⟩) fun u s2 ⟨v, H2, J2, r2, q2⟩ => ?_)
          obtain ⟨ev, eH⟩ := q2
          subst ev
          subst eH
          obtain rfl : u = Value.ref a' := r2
          refine Calls.spliced_nil ⟨J2.kIn, ?_⟩
          have g2 := Go.bnd g
          have rcd := clo_word (dl := dl) (f := f) (Q := Q) (blk_back J0 hfp J2) T FW hbW SW hst hr l2 l3 l4 (l5 dl rfl) hrest (w.sub _ _ (k3 rfl _ rfl))
            (tcaught_to (CS := He.ga X.K ke) (fun z hz => ⟨_, hkx z hz⟩) w (S.rewipe hw) g2 fun a F2 H2 s3 v w2 rv g3 => wordM_go Step.refl w2 rv g3 a') hvb her hgy hdy hd hcd hdw hcdw
          refine wpAny_call (codeAny_mono rcd fun r s3 hq => ?_)
          cases r with
          | error e => exact (show False from hq).elim
          | ok fl =>
            cases fl with
            | ret u => exact J2.after hq
            | next => exact False.elim hq
            | brk => exact False.elim hq
            | cont => exact False.elim hq
      | _ => simp only [ei] at g; exact g.elim
theorem deo_lcJ {elt tg iter : Expr} {ifs : List Expr} {scope : Scope} {own : List (Str × Nat)} {it : SA} {is : List Nat} {f : SG} {u : ST} {h : SE} {pos : Pos} (hc : X.calm = true) (hN : X.N.Nodup) (hi : DIm X dl W tg iter it) (ok : BlkOk X.N X.env.scope scope own) (hv : ∀ i ∈ is, i ∈ own.map (·.2))
    (hg : ∀ (s : Shared) (H : Hp) (C : Addr) (cl : List (Str × Addr)) (fp : List Addr), DG (X.blk s H scope (compEnvC scope cl C X.env) fp) dl tg is f)
    (ht : ∀ (s : Shared) (H : Hp) (C : Addr) (cl : List (Str × Addr)) (fp : List Addr), PTs (X.blk s H scope (compEnvC scope cl C X.env) fp) ifs (tDT (X.blk s H scope (compEnvC scope cl C X.env) fp) dl WF u))
    (he : ∀ pins σ, ItemAt X pins σ elt scope (own.map (·.2)) (tD X dl WF h)) (hs : ∀ x, foldedSetIterable iter X.env x = pure x := by intro _; rfl) :
    DEO X dl W (.ListComp elt [{ target := tg, iter := iter, ifs := ifs, is_async := 0 }] scope pos) (gLc (own.map (·.2)) it f u h) :=
  PE.of (pe_lcJ (tt := tDT X dl WF u) (te := tD X dl WF h) (g := gD X dl is f) hc hN hi ok hg ht he hs) fun sg H Q q => lcR hv q
end
end
end EK
namespace EK
open PySem PySem.Spec PyProof.Rows L2
section
section
open AutoSeq1 (wpAny_loadPart')
open MeetsSeq MeetsSeq2 MeetsSeq3 SeqRoads2 PySem.Calls
open PySem.SeqAt (EqIn)
variable {prog : Program} {w : World}
theorem tup_ne_same (la lb : Addr) (us vs : Array Value) (n1 n2 : Nat) (d1 d2 : Option Addr) (s1 s2 : Array (Option Value)) :
    MeetsIn prog w (Builtin.«tuple.__ne__» ⟨[.ref la, .ref lb], []⟩)
      (fun A R st => st.heap.get? la = some { cls := .type "tuple", dict := d1, data := .seq us n1, slots := s1 } /\ st.heap.get? lb = some { cls := .type "tuple", dict := d2, data := .seq vs n2, slots := s2 } /\
        (us.size = vs.size /\ ∀ j (h1 : j < us.size) (h2 : j < vs.size), EqIn prog w A.in1 st us[j] vs[j] true) /\ R (.ok (.ret (.bool false))) st) :=
  .of_wp fun A R st hyp => by
    obtain ⟨hp, gg, dd, tk, os⟩ := st
    obtain ⟨ga, gb, ⟨hs, items⟩, res⟩ := hyp
    have st2 := AutoSeq1.sub_tuple_tuple
    have lz : (us.toList.zip vs.toList).length = us.size := by simp [hs]
    wp_walk using wpAny_loadPart' ga, wpAny_loadPart' gb, wpAny_forIn_list _ (fun rest b s' => b.1 = none /\ s' = ⟨hp, gg, dd, tk, os⟩ /\ ∃ i, rest = (us.toList.zip vs.toList).drop i) _
    case turn =>
      rintro ⟨y, x⟩ rest b s' ⟨hb', rfl, i, hz⟩
      have lt : i < (us.toList.zip vs.toList).length := by
        by_cases q : i < (us.toList.zip vs.toList).length
        · exact q
        · rw [List.drop_of_length_le (by omega)] at hz
          cases hz
      have lt1 : i < us.size := by omega
      have lt2 : i < vs.size := by omega
      rw [List.drop_eq_getElem_cons lt] at hz
      injection hz with pr rst
      have ey : y = us[i] := by simpa using congrArg Prod.fst pr
      have ex : x = vs[i] := by simpa using congrArg Prod.snd pr
      subst ey
      subst ex
      refine wpAny_bind (items i lt1 lt2 _ _ ?_)
      wp_walk
      exact ⟨rfl, rfl, i + 1, rst⟩
    case fin =>
      rintro ⟨b1, b2⟩ s' ⟨hb', rfl, i, hz⟩
      simp only at hb'
      subst hb'
      wp_walk
      exact ⟨_, rfl, by simpa [Builtin.Tuple.tupleCompareSizes, hs, bne] using res⟩
    case h => exact ⟨rfl, rfl, 0, rfl⟩
theorem rc_ne_same {A : Around} {st : Shared} {E : Value -> Shared -> Prop} {la lb : Addr} {us vs : Array Value} {Q : Value -> Shared -> Prop} (ha : st.heap.IsTuple la us) (hb : st.heap.IsTuple lb vs) (hu : A.units < cLine) (hs : us.size = vs.size)
    (items : ∀ j (h1 : j < us.size) (h2 : j < vs.size), EqIn prog w A.in1 st us[j] vs[j] true) (h : Q (.bool false) st) : wpAny (model prog w) A (richCompare .NotEq (.ref la) (.ref lb)) Q E st := by
  obtain ⟨⟨c1, d1, t1, s1⟩, e1, k1, n1, m1⟩ := id ha
  obtain ⟨⟨c2, d2, t2, s2⟩, e2, k2, n2, m2⟩ := id hb
  simp only at k1 m1 k2 m2
  subst k1
  subst m1
  subst k2
  subst m2
  refine wpAny_richCompare_same_room (T := "tuple") (op := .NotEq) ⟨_, e1, rfl⟩ ⟨_, e2, rfl⟩ PySem.F.slot_tuple_ne (call_meetsIn PySem.F.slot_tuple_ne ⟨_, e1, rfl⟩ PySem.F.entry_tuple_ne (PySem.F.args_tuple_ne_2 _ _) (tup_ne_same la lb us vs n1 n2 d1 d2 s1 s2) ?_) hu
  exact ⟨e1, e2, ⟨hs, items⟩, show Value.bool false ≠ Value.notImplemented /\ Q (.bool false) st from ⟨(fun x => nomatch x), h⟩⟩
end
def sameL (f : D -> D -> Bool) : List D -> List D -> Bool
  | [], [] => true
  | x :: xs, y :: ys => f x y && sameL f xs ys
  | _, _ => false
def itm1 (x y : D) : Bool := sameDc samePl x y || samePl x y
def neT (a b : D) : Option D := match a, b with
  | .tup xs, .tup ys => if sameL itm1 xs ys = true then some (.bl false) else neD a b
  | _, _ => neD a b
section
variable {X : Cx} {dl : Dr X.w X.K X.mg} {pins : List (Addr × Obj)} {σ : L2.St} {H F : Hp} {s : Shared}
theorem sameL_at {A : Around} {f : D -> D -> Bool} (hf : SaysEq X dl F s A f) : ∀ {xs ys : List D} {vs ws : List V} {us zs : List Value}, sameL f xs ys = true -> RepL X.K X.mg dl F xs vs -> RepL X.K X.mg dl F ys ws -> Vals vs us -> Vals ws zs ->
    us.length = zs.length /\ ∀ j (h1 : j < us.length) (h2 : j < zs.length), PySem.SeqAt.EqIn X.prog X.w A s us[j] zs[j] true
  | [], [], vs, ws, us, zs, _, r1, r2, k1, k2 => by
    have r1 : vs = [] := r1
    have r2 : ws = [] := r2
    subst r1 r2
    cases k1
    cases k2
    exact ⟨rfl, fun j h => absurd h (Nat.not_lt_zero j)⟩
  | x :: xs, y :: ys, vs, ws, us, zs, e, r1, r2, k1, k2 => by
    obtain ⟨v, vs', rfl, a1, a2⟩ := r1
    obtain ⟨u, ws', rfl, b1, b2⟩ := r2
    rw [sameL, Bool.and_eq_true] at e
    cases k1 with
    | cons p1 p2 =>
      cases k2 with
      | cons q1 q2 =>
        obtain ⟨l, ih⟩ := sameL_at hf e.2 a2 b2 p2 q2
        refine ⟨by rw [List.length_cons, List.length_cons, l], fun j h1 h2 => ?_⟩
        cases j with
        | zero => exact hf x y v u _ _ e.1 a1 b1 p1 q1
        | succ j => exact ih j (by simpa using h1) (by simpa using h2)
  | [], _ :: _, _, _, _, _, e, _, _, _, _ => by cases e
  | _ :: _, [], _, _, _, _, e, _, _, _, _ => by cases e
theorem sqT_is {st : DS} (I : Inv X pins σ H s) (w : Wd dl F H st) {a : Addr} {vs : List V} (q : SqT X.K F a vs) : ∃ us : List Value, Vals vs us /\ s.heap.IsTuple a us.toArray := by
  rcases Same.seqT w.sub q with q | ⟨o, its, n, e, hc, hd, _, hv⟩
  · obtain ⟨_, its, hv, o, e, hc, n, hd⟩ := (show ObjOk X.prog X.w H s.heap a (.tup vs) from q.ok I.hok)
    exact ⟨its, hv, o, e, hc, n, hd⟩
  · exact ⟨its.toList, hv, o, I.kIn _ _ e, hc, n, by rw [hd]⟩
theorem says_itm (I : Inv X pins σ H s) (sub : Same F H) {A : Around} (hu : A.units + 65 < cLine) : SaysEq X dl F s A itm1 := by
  intro x y v w v' w' e r1 r2 q1 q2
  unfold itm1 at e
  rcases Bool.or_eq_true _ _ ▸ e with e | e
  · exact says_dc I sub (by omega) (says_pl I sub (A := A.in1) (by show A.units + 1 + 64 < cLine; omega)) x y v w v' w' e r1 r2 q1 q2
  · exact says_pl I sub (by omega) x y v w v' w' e r1 r2 q1 q2
end
section
variable {X : Cx} {dl : Dr X.w X.K X.mg}
theorem od_neT (hu : X.A.units + 66 < cLine) : OpR X (compareOp .NotEq) (rD X dl neT) := by
  intro pins s σ H x y v u Q I rx ry q
  obtain ⟨F, st, a, b, d, w, ra, rb, e, k⟩ := q
  have other : neD a b = some d -> wpAny (model X.prog X.w) X.A (compareOp .NotEq v u) (EP X pins σ Q) X.xe s := fun e => od_ne (by omega) pins s σ H x y v u Q I rx ry ⟨F, st, a, b, d, w, ra, rb, e, k⟩
  unfold neT at e
  split at e
  · rename_i xs ys
    split at e
    · rename_i hs
      cases e
      obtain ⟨p, vs, rfl, t1, l1, r1⟩ := ra
      obtain ⟨q, ws, rfl, t2, l2, r2⟩ := rb
      cases (show v = Value.ref p from rx)
      cases (show u = Value.ref q from ry)
      obtain ⟨us, k1, is1⟩ := sqT_is I w t1
      obtain ⟨zs, k2, is2⟩ := sqT_is I w t2
      obtain ⟨hl, hit⟩ := sameL_at (says_itm I w.sub (A := X.A.in1) (by show X.A.units + 1 + 65 < cLine; omega)) hs r1 r2 k1 k2
      refine rc_ne_same is1 is2 (by omega) (by simpa using hl) (fun j h1 h2 => by simpa using hit j (by simpa using h1) (by simpa using h2)) ?_
      exact ⟨.bl _, H, I, rfl, k F H _ Step.refl w rfl⟩
    · exact other e
  · exact other e
end
end
section
section
variable {prog : Program} {w : World} {A : Around} {E : Value -> Shared -> Prop}
theorem draw_lst {it la : Addr} {its : Array Value} (ne : la ≠ it) : ∀ (k i : Nat) (st : Shared) (Q : List Value -> Shared -> Prop), st.heap.IsListIter it la i -> st.heap.IsList la its -> i + k <= its.size ->
    (∀ hz, hz.IsListIter it la (i + k) -> Heap.SameBut it st.heap hz -> Q ((its.toList.drop i).take k) { st with heap := hz }) -> wpAny (model prog w) A (draw (.ref it) k) Q E st
  | 0, i, st, Q, ti, _, _, done => by
    show wpAny _ _ (pure []) Q E st
    exact wpAny_pure (by simpa using done st.heap ti (Heap.SameBut.refl ..))
  | k + 1, i, st, Q, ti, tl, le, done => by
    have lt : i < its.size := by omega
    show wpAny _ _ (pyNext (.ref it) >>= _) Q E st
    refine wpAny_bind (wpAny_pyNext_list_item ti tl (x := its[i]) (by simp [lt]) fun h1 t1 b1 => ?_)
    refine wpAny_bind (wpAny_holding (draw_lst ne k (i + 1) _ _ t1 (tl.extBut b1.extBut ne) (by omega) fun h2 t2 b2 => wpAny_pure ?_))
    have cut : its.toList.drop i = its[i] :: its.toList.drop (i + 1) := by simp [List.drop_eq_getElem_cons, lt]
    have z := done h2 (by rw [show i + (k + 1) = i + 1 + k by omega]; exact t2) (b1.trans b2)
    rw [cut, List.take_succ_cons] at z
    exact z
theorem unpack_lst {la : Addr} {its : Array Value} {st : Shared} {targets : List (Bool × (Value -> Sem Unit))} {Q : Unit -> Shared -> Prop} (hh : A.handled = none) (tl : st.heap.IsList la its)
    (hn : targets.length = its.size) (star : targets.findIdx? (·.1) = none)
    (h : ∀ hz, Heap.ExtBut st.heap.objs.size st.heap hz -> wpAny (model prog w) A (assignInOrder (targets.map (·.2)) its.toList) Q E { st with heap := hz }) :
    wpAny (model prog w) A (unpack (.ref la) targets) Q E st := by
  have ne : la ≠ st.heap.objs.size := by
    obtain ⟨o, ho, _⟩ := tl
    exact Nat.ne_of_lt (Heap.lt_size ho)
  unfold unpack
  rw [hn, star]
  refine wpAny_bind (wpAny_holding ?_)
  unfold unpackItems
  refine wpAny_bind ?_
  unfold notIterableAtAll
  refine wpAny_bind (wpAny_specialOf tl.typeIs slot_list_iter.lookup (wpAny_pure ?_))
  simp only [Bool.false_eq_true, if_false]
  refine wpAny_bind (wpAny_holding (wpAny_pyIter_list tl ?_))
  refine wpAny_bind (wpAny_holding (draw_lst ne its.size 0 _ _ ⟨_, Heap.get?_push_size _ rfl, rfl, rfl⟩ (tl.push _) (by omega) fun h1 t1 b1 => ?_))
  have whole : List.take its.size (List.drop 0 its.toList) = its.toList := by
    rw [List.drop_zero]
    exact List.take_of_length_le (by simp)
  rw [whole, if_neg (by simp)]
  refine wpAny_bind (wpAny_holding (wpAny_pyNext_list_end hh t1 ((tl.push _).extBut b1.extBut ne) (by simp) fun h2 e2 => ?_))
  simp only [Option.isSome_none, Bool.false_eq_true, if_false]
  exact wpAny_pure (h h2 fun b o hb e => e2 b o hb (b1.extBut b o hb (Heap.get?_push_of_some _ e)))
end
def gLstT (K : PySem.W.Frag) (n : Nat) (t : TGs) : TG := fun v σ H Q => ∃ a xs, v = .ref a /\ SqL K H a xs /\ xs.length = n /\ t xs σ H Q
theorem pg_lst {X : Cx} {pos : Pos} {es : List Expr} {k : Nat} {t : TGs} {n : Nat} (hc : X.calm = true) (h : PGs X es t)
    (hn : (assignEach es X.env).length = n := by rfl) (hst : (assignEach es X.env).findIdx? (·.1) = none := by rfl) : PG X (.Tuple es k pos) (gLstT X.K n t) := by
  refine ⟨fun pins s σ H v u Q I r hw => ?_⟩
  obtain ⟨a, xs, rfl, hq, hl, hw⟩ := hw
  obtain rfl : u = Value.ref a := r
  obtain ⟨its, rv, pl, hz⟩ := I.list hq
  rw [assign_Tuple]
  refine wpAny_bind (wpAny_standAt (unpack_lst (I.ok.hd hc) pl.isList (by simp [hn, <- hl, rv.length]) hst fun hp hx => ?_))
  have J : Inv X pins σ H { s with heap := hp } := I.kept (t' := s.toks) fun b o e => hx b o (Nat.ne_of_lt (Heap.lt_size e)) e
  exact h.run pins _ σ H xs _ Q J (by simpa using rv) hw
def itemsLs : D -> Option (List D)
  | .lst xs => some xs
  | _ => none
def sgTL (r : Sls -> List D -> Option Sls) : SG := fun G d => (itemsLs d).bind fun ds => r G ds
theorem dg_lst {X : Cx} {dl : Dr X.w X.K X.mg} {pos : Pos} {es : List Expr} {kk : Nat} {is : List Nat} {r : Sls -> List D -> Option Sls} {n : Nat} (hc : X.calm = true) (hlen : ∀ G ds G', r G ds = some G' -> ds.length = n) (h : PGs X es (gDs X dl is r))
    (hn : (assignEach es X.env).length = n := by rfl) (hst : (assignEach es X.env).findIdx? (·.1) = none := by rfl) : DG X dl (.Tuple es kk pos) is (sgTL r) := by
  refine PG.of (pg_lst (n := n) hc h hn hst) fun v sg H Q q => ?_
  obtain ⟨F0, H0, F, G, s, d, G', w, S, rp, e, k⟩ := q
  unfold sgTL at e
  cases d with
  | lst ds =>
    obtain ⟨a, vs, h1, h2, h3, h4⟩ := rp
    simp only [itemsLs, Option.bind_some] at e
    exact ⟨a, vs, h1, SqL.of (w.sub _ _ h2), by rw [<- h4.length]; exact hlen _ _ _ e, F0, H0, F, G, s, ds, G', w, S, h4, e, k⟩
  | _ => simp [itemsLs] at e
end
end EK
namespace EKB.K59
open PySem PySem.Spec PyProof.Rows L2 EK
section
theorem cb_law_caught : ∃ j q1 q2 q3 p1 p2 p3 p4 p5 p6 p7 p8 p9 r1 r2, defBody s_law_caught = caughtBody "_law_task" "_law_caught_here" "_law_error" "KeepError" j q1 q2 q3 p1 p2 p3 p4 p5 p6 p7 p8 p9 r1 r2 := ⟨_, _, _, _, _, _, _, _, _, _, _, _, _, _, _, rfl⟩
theorem xt_BadFamily : ExcT P xd_BadFamily := ⟨by kernel_rfl, beq_self_eq_true _, ⟨_, _, _, _, _, _, _, _, _, _, _, _, rfl, fun _ _ _ _ => ⟨⟨_, rfl⟩, rfl, rfl⟩⟩, fun _ _ _ _ _ _ _ _ _ _ _ => .of_eq (by kernel_rfl), ⟨_, rfl, rfl⟩, ⟨by decide +kernel, rfl, rfl, rfl, rfl, rfl, rfl, rfl, by decide +kernel, by decide +kernel⟩⟩
theorem xt_BadStages : ExcT P xd_BadStages := ⟨by kernel_rfl, beq_self_eq_true _, ⟨_, _, _, _, _, _, _, _, _, _, _, _, rfl, fun _ _ _ _ => ⟨⟨_, rfl⟩, rfl, rfl⟩⟩, fun _ _ _ _ _ _ _ _ _ _ _ => .of_eq (by kernel_rfl), ⟨_, rfl, rfl⟩, ⟨by decide +kernel, rfl, rfl, rfl, rfl, rfl, rfl, rfl, by decide +kernel, by decide +kernel⟩⟩
theorem xt_BadIndex : ExcT P xd_BadIndex := ⟨by kernel_rfl, beq_self_eq_true _, ⟨_, _, _, _, _, _, _, _, _, _, _, _, rfl, fun _ _ _ _ => ⟨⟨_, rfl⟩, rfl, rfl⟩⟩, fun _ _ _ _ _ _ _ _ _ _ _ => .of_eq (by kernel_rfl), ⟨_, rfl, rfl⟩, ⟨by decide +kernel, rfl, rfl, rfl, rfl, rfl, rfl, rfl, by decide +kernel, by decide +kernel⟩⟩
theorem xt_BadCount : ExcT P xd_BadCount := ⟨by kernel_rfl, beq_self_eq_true _, ⟨_, _, _, _, _, _, _, _, _, _, _, _, rfl, fun _ _ _ _ => ⟨⟨_, rfl⟩, rfl, rfl⟩⟩, fun _ _ _ _ _ _ _ _ _ _ _ => .of_eq (by kernel_rfl), ⟨_, rfl, rfl⟩, ⟨by decide +kernel, rfl, rfl, rfl, rfl, rfl, rfl, rfl, by decide +kernel, by decide +kernel⟩⟩
end
end EKB.K59
namespace EK
open PySem PySem.Spec PyProof.Rows L2
section
theorem bnd_id {α : Type} (m : M α) : bnd m ret = m := by
  funext s
  unfold bnd
  cases m s with
  | none => rfl
  | some p => obtain ⟨r, s'⟩ := p; cases r <;> rfl
theorem bnd_congr {α β : Type} {m : M α} {k k' : α -> M β} (h : ∀ a, k a = k' a) : bnd m k = bnd m k' := by rw [funext h]
def lcB (f : SG) (u : ST) (h : SE) (G : Sls) (d : D) : M (Option D) := bnd (ofO (f G d)) fun G' => bnd (u G') fun k => if k then bnd (h G') fun y => ret (some y) else ret none
def optC : Option D -> List D -> List D
  | some y, r => y :: r
  | none, r => r
theorem lcM_cons {f : SG} {u : ST} {h : SE} {G : Sls} {d : D} {ds : List D} : lcM f u h G (d :: ds) = bnd (lcB f u h G d) fun o => bnd (lcM f u h G ds) fun r => ret (optC o r) := by
  rw [lcM]
  unfold lcB
  rw [bnd_assoc]
  refine bnd_congr fun G' => ?_
  rw [bnd_assoc]
  refine bnd_congr fun k => ?_
  cases k with
  | false => exact (bnd_id _).symm
  | true => simp only [if_true, bnd_assoc]; rfl
theorem lcM_pure {α : Type} (enc : α -> D) (r : α -> Option D) {f : SG} {u : ST} {h : SE} {G : Sls} : ∀ (xs : List α), (∀ x ∈ xs, lcB f u h G (enc x) = ret (r x)) -> lcM f u h G (xs.map enc) = ret (xs.filterMap r)
  | [], _ => rfl
  | x :: xs, H => by
    rw [List.map_cons, lcM_cons, H x (.head _), bnd_ret, lcM_pure enc r xs fun y hy => H y (.tail _ hy), bnd_ret, List.filterMap_cons]
    cases r x <;> rfl
theorem lcM_map {α : Type} (enc : α -> D) (r : α -> D) {f : SG} {u : ST} {h : SE} {G : Sls} (xs : List α) (H : ∀ x ∈ xs, lcB f u h G (enc x) = ret (some (r x))) : lcM f u h G (xs.map enc) = ret (xs.map r) := by
  rw [lcM_pure enc (fun x => some (r x)) xs H, List.filterMap_eq_map']
theorem lcM_filter {α : Type} (enc : α -> D) (p : α -> Bool) {f : SG} {u : ST} {h : SE} {G : Sls} (xs : List α) (H : ∀ x ∈ xs, lcB f u h G (enc x) = ret (if p x then some (enc x) else none)) : lcM f u h G (xs.map enc) = ret ((xs.filter p).map enc) := by
  rw [lcM_pure enc (fun x => if p x then some (enc x) else none) xs H]
  congr 1
  clear H
  induction xs with
  | nil => rfl
  | cons x xs ih =>
    rw [List.filterMap_cons, List.filter_cons]
    cases p x
    · simpa using ih
    · simpa using ih
theorem lc2M_pure {α β : Type} (enc : α -> D) (en1 : α -> β -> D) (ys : α -> List β) (r : α -> β -> D) {vs1 : List Nat} {f : SG} {u : ST} {it1 : SA} {f1 : SG} {u1 : ST} {h : SE} {G : Sls} : ∀ (xs : List α),
    (∀ x ∈ xs, ∃ G', f G (enc x) = some G' /\ u G' = ret true /\ it1 G' = ret ((ys x).map (en1 x)) /\ (ys x).length <= 1000 /\ ∀ y ∈ ys x, lcB f1 u1 h (wipeG (fzG G') vs1) (en1 x y) = ret (some (r x y))) ->
    lc2M vs1 f u it1 f1 u1 h G (xs.map enc) = ret (xs.flatMap fun x => (ys x).map (r x))
  | [], _ => rfl
  | x :: xs, H => by
    obtain ⟨G', h1, h2, h3, h4, h5⟩ := H x (.head _)
    rw [List.map_cons, lc2M, h1, ofO_some, bnd_ret, h2, bnd_ret, if_pos rfl, h3, bnd_ret, List.length_map, if_pos h4, ofO_some, bnd_ret, lcM_map (en1 x) (r x) _ h5, bnd_ret,
      lc2M_pure enc en1 ys r xs fun y hy => H y (.tail _ hy), bnd_ret, List.flatMap_cons]
theorem forM_pre {α : Type} (enc : α -> D) (I : List α -> Sls -> Prop) {a : SG} {b : SS} {xs : List α} {G : Sls} (h0 : I [] G)
    (H : ∀ p x r, xs = p ++ x :: r -> ∀ G, I p G -> ∃ G1 G2, a G (enc x) = some G1 /\ b G1 = ret (.next G2) /\ I (p ++ [x]) G2) : ∃ G', forM a b (xs.map enc) G = ret (.next G') /\ I xs G' := by
  have go : ∀ (r p : List α) (G : Sls), xs = p ++ r -> I p G -> ∃ G', forM a b (r.map enc) G = ret (.next G') /\ I xs G' := by
    intro r
    induction r with
    | nil => intro p G e i; exact ⟨G, rfl, by rw [e, List.append_nil]; exact i⟩
    | cons x r ih =>
      intro p G e i
      obtain ⟨G1, G2, h1, h2, h3⟩ := H p x r e G i
      obtain ⟨G', e2, j⟩ := ih (p ++ [x]) G2 (by rw [e]; simp) h3
      refine ⟨G', ?_, j⟩
      rw [List.map_cons, forM, h1, ofO_some, bnd_ret, h2, bnd_ret]
      exact e2
  exact go xs [] G rfl h0
theorem forM_bnd {α β : Type} (enc : α -> D) (I : List α -> Sls -> Prop) {a : SG} {b : SS} {xs : List α} {G : Sls} {k : Out -> M β} {R : M β} (h0 : I [] G)
    (H : ∀ p x r, xs = p ++ x :: r -> ∀ G, I p G -> ∃ G1 G2, a G (enc x) = some G1 /\ b G1 = ret (.next G2) /\ I (p ++ [x]) G2) (hk : ∀ G', I xs G' -> k (.next G') = R) : bnd (forM a b (xs.map enc) G) k = R := by
  obtain ⟨G', e, i⟩ := forM_pre enc I h0 H
  rw [e, bnd_ret]
  exact hk G' i
def LIM : Int := 1099511627776
structure OkS (s : DS) : Prop where
  w : ∀ x ∈ s.wide, 0 <= x
  c : ∀ x ∈ s.cells, 0 <= x /\ x < 2147483647
  r : 0 <= s.rest
  t : 0 <= s.turn
structure OkK (s s' : DS) : Prop extends OkS s' where
  ob : s'.objs = s.objs
  lv : s'.live = s.live
instance {s s' : DS} : CoeOut (OkK s s') (OkS s') := ⟨OkK.toOkS⟩
theorem OkK.refl {s : DS} (o : OkS s) : OkK s s := ⟨o, rfl, rfl⟩
theorem OkK.trans {s s' s'' : DS} (o : OkK s s') (p : OkK s' s'') : OkK s s'' := ⟨p.toOkS, p.ob.trans o.ob, p.lv.trans o.lv⟩
def Tr {α : Type} (n : Nat) (m : M α) (P : α -> Prop) : Prop := ∀ s, OkS s -> s.turn + n <= LIM -> ∃ a s', m s = some (.ok a, s') /\ OkK s s' /\ s'.turn <= s.turn + n /\ P a
theorem Tr.ret {α : Type} {a : α} {P : α -> Prop} (h : P a) : Tr 0 (EK.ret a) P := fun s o _ => ⟨a, s, rfl, .refl o, by omega, h⟩
theorem Tr.bnd {α β : Type} {m : M α} {k : α -> M β} {P : α -> Prop} {Q : β -> Prop} {i j : Nat} (h : Tr i m P) (H : ∀ a, P a -> Tr j (k a) Q) : Tr (i + j) (EK.bnd m k) Q := fun s o l => by
  obtain ⟨a, s1, e1, o1, t1, p⟩ := h s o (by push_cast at l; omega)
  obtain ⟨b, s2, e2, o2, t2, q⟩ := H a p s1 o1 (by push_cast at l; omega)
  refine ⟨b, s2, ?_, o1.trans o2, by push_cast; omega, q⟩
  unfold EK.bnd
  rw [e1]
  exact e2
theorem Tr.mono {α : Type} {m : M α} {P Q : α -> Prop} {i j : Nat} (h : Tr i m P) (l : i <= j) (H : ∀ a, P a -> Q a) : Tr j m Q := fun s o k => by
  obtain ⟨a, s1, e1, o1, t1, p⟩ := h s o (by omega)
  exact ⟨a, s1, e1, o1, by omega, H a p⟩
theorem Tr.le {α : Type} {m : M α} {P : α -> Prop} {i j : Nat} (h : Tr i m P) (l : i <= j) : Tr j m P := h.mono l fun _ p => p
theorem Tr.imp {α : Type} {m : M α} {P Q : α -> Prop} {i : Nat} (h : Tr i m P) (H : ∀ a, P a -> Q a) : Tr i m Q := h.mono (Nat.le_refl _) H
theorem Tr.noErr {α : Type} {m : M α} {P : α -> Prop} {i : Nat} (h : Tr i m P) : Tr i (EK.noErr m) P := fun s o l => by
  obtain ⟨a, s1, e1, o1, t1, p⟩ := h s o l
  refine ⟨a, s1, ?_, o1, t1, p⟩
  unfold EK.noErr
  rw [e1]
theorem Tr.eq {α : Type} {m : M α} {a : α} {P : α -> Prop} (e : m = EK.ret a) (h : P a) : Tr 0 m P := by rw [e]; exact Tr.ret h
theorem Tr.lc {α : Type} (n : Nat) (P : D -> Prop) {f : SG} {u : ST} {h : SE} {G : Sls} (enc : α -> D) : ∀ (xs : List α), (∀ x ∈ xs, Tr n (lcB f u h G (enc x)) fun o => ∃ d, o = some d /\ P d) ->
    Tr (n * xs.length) (lcM f u h G (xs.map enc)) fun ds => ds.length = xs.length /\ ∀ d ∈ ds, P d
  | [], _ => Tr.ret ⟨rfl, fun _ h => by cases h⟩
  | x :: xs, H => by
    rw [List.map_cons, lcM_cons]
    refine Tr.le (Tr.bnd (H x (.head _)) fun o ⟨d, e, p⟩ => Tr.bnd (Tr.lc n P enc xs fun y hy => H y (.tail _ hy)) fun ds ⟨l, q⟩ => Tr.ret ?_) (by rw [List.length_cons, Nat.mul_succ]; omega)
    subst e
    refine ⟨by simp [optC, l], fun z hz => ?_⟩
    rcases List.mem_cons.mp hz with rfl | hz
    · exact p
    · exact q z hz
theorem Tr.forI {α : Type} (n : Nat) (enc : α -> D) (I : Nat -> Sls -> Prop) (N : Nat) {a : SG} {b : SS} : ∀ (xs : List α) (i : Nat) (G : Sls), i + xs.length <= N -> I i G ->
    (∀ i G x, x ∈ xs -> i < N -> I i G -> ∃ G1, a G (enc x) = some G1 /\ Tr n (b G1) fun o => ∃ G2, o = .next G2 /\ I (i + 1) G2) ->
    Tr (n * xs.length) (forM a b (xs.map enc) G) fun o => ∃ G', o = .next G' /\ I (i + xs.length) G'
  | [], i, G, _, h, _ => Tr.ret ⟨G, rfl, h⟩
  | x :: xs, i, G, hN, h, H => by
    rw [List.length_cons] at hN
    obtain ⟨G1, e1, t⟩ := H i G x (.head _) (by omega) h
    rw [List.map_cons, forM, e1, ofO_some, bnd_ret]
    refine Tr.le (Tr.bnd t fun o ⟨G2, e2, j⟩ => ?_) (show n + n * xs.length <= _ by rw [List.length_cons, Nat.mul_succ]; omega)
    subst e2
    refine (Tr.forI n enc I N xs (i + 1) G2 (by omega) j fun i G y hy => H i G y (.tail _ hy)).imp fun o ⟨G', e, k⟩ => ⟨G', e, ?_⟩
    rw [List.length_cons, Nat.add_comm xs.length 1, <- Nat.add_assoc]
    exact k
theorem sl0 : (0 <= PySem.sizeLine) = True := by unfold PySem.sizeLine; simp
theorem sl1 : (1 <= PySem.sizeLine) = True := by unfold PySem.sizeLine; simp
theorem sl2 : (2 <= PySem.sizeLine) = True := by unfold PySem.sizeLine; simp
theorem sl3 : (3 <= PySem.sizeLine) = True := by unfold PySem.sizeLine; simp
theorem sl4 : (4 <= PySem.sizeLine) = True := by unfold PySem.sizeLine; simp
theorem sl5 : (5 <= PySem.sizeLine) = True := by unfold PySem.sizeLine; simp
theorem sl6 : (6 <= PySem.sizeLine) = True := by unfold PySem.sizeLine; simp
theorem sl7 : (7 <= PySem.sizeLine) = True := by unfold PySem.sizeLine; simp
theorem sl8 : (8 <= PySem.sizeLine) = True := by unfold PySem.sizeLine; simp
theorem sl9 : (9 <= PySem.sizeLine) = True := by unfold PySem.sizeLine; simp
theorem sl10 : (10 <= PySem.sizeLine) = True := by unfold PySem.sizeLine; simp
theorem sl11 : (11 <= PySem.sizeLine) = True := by unfold PySem.sizeLine; simp
theorem sl12 : (12 <= PySem.sizeLine) = True := by unfold PySem.sizeLine; simp
theorem sl13 : (13 <= PySem.sizeLine) = True := by unfold PySem.sizeLine; simp
theorem itemsOf_lst (xs : List D) : itemsOf (.lst xs) = some xs := rfl
theorem itemsOf_tup (xs : List D) : itemsOf (.tup xs) = some xs := rfl
theorem itemsTL_lst (xs : List D) : itemsTL (.lst xs) = some xs := rfl
theorem itemsTL_tup (xs : List D) : itemsTL (.tup xs) = some xs := rfl
theorem itemsT_tup (xs : List D) : itemsT (.tup xs) = some xs := rfl
theorem asB_bl (b : Bool) : asB (.bl b) = some b := rfl
theorem asI_int (b : Int) : asI (.int b) = some b := rfl
theorem tupleD_lst (xs : List D) : tupleD [.lst xs] = some (.tup xs) := rfl
theorem tupleD_tup (xs : List D) : tupleD [.tup xs] = some (.tup xs) := rfl
theorem listD_lst (xs : List D) : listD [.lst xs] = some (.lst xs) := rfl
theorem listD_tup (xs : List D) : listD [.tup xs] = some (.lst xs) := rfl
theorem lenD_lst (xs : List D) : lenD [.lst xs] = some (.int (xs.length : Int)) := rfl
theorem lenD_tup (xs : List D) : lenD [.tup xs] = some (.int (xs.length : Int)) := rfl
theorem lenD_scr (xs : List Int) : lenD [.scr xs] = some (.int (xs.length : Int)) := rfl
theorem leI_int (i j : Int) : leI (.int i) (.int j) = some (.bl (decide (i <= j))) := rfl
theorem ltI_int (i j : Int) : ltI (.int i) (.int j) = some (.bl (decide (i < j))) := rfl
theorem gtI_int (i j : Int) : gtI (.int i) (.int j) = some (.bl (decide (j < i))) := rfl
theorem geI_int (i j : Int) : geI (.int i) (.int j) = some (.bl (decide (j <= i))) := rfl
theorem addD_int (i j : Int) : addD (.int i) (.int j) = some (.int (i + j)) := rfl
theorem subD_int (i j : Int) : subD (.int i) (.int j) = some (.int (i - j)) := rfl
theorem eqD_int (i j : Int) : eqD (.int i) (.int j) = some (.bl (decide (i = j))) := by
  have : PyData.eqv (.int i) (.int j) = decide (i = j) := by simp only [PyData.eqv]; rfl
  rw [<- this]
  rfl
theorem neD_int (i j : Int) : neD (.int i) (.int j) = some (.bl (!decide (i = j))) := by
  have : PyData.eqv (.int i) (.int j) = decide (i = j) := by simp only [PyData.eqv]; rfl
  rw [<- this]
  rfl
theorem eqD_bl (i j : Bool) : eqD (.bl i) (.bl j) = some (.bl (decide (i = j))) := by cases i <;> cases j <;> rfl
theorem neD_bl (i j : Bool) : neD (.bl i) (.bl j) = some (.bl (!decide (i = j))) := by cases i <;> cases j <;> rfl
theorem intD_int (i : Int) : intD [.int i] = some (.int i) := rfl
theorem isiD_tup (cs : List (Str × Bool)) (f : String -> Option Bool) (xs : List D) : isiD cs f (.tup xs) = (f "tuple").map .bl := rfl
theorem isiD_str (cs : List (Str × Bool)) (f : String -> Option Bool) (xs : Str) : isiD cs f (.str xs) = (f "str").map .bl := rfl
theorem isiD_obj (cs : List (Str × Bool)) (f : String -> Option Bool) (c : Str) (ns : List Str) (xs : List D) : isiD cs f (.obj c ns xs) = (cs.lookup c).map .bl := rfl
theorem sliceD_lst (lo hi : Option Int) (xs : List D) : sliceD lo hi (.lst xs) = some (.lst (cutL xs lo hi)) := rfl
theorem sliceD_tup (lo hi : Option Int) (xs : List D) : sliceD lo hi (.tup xs) = some (.tup (cutL xs lo hi)) := rfl
theorem cutL_from1 {α : Type} (xs : List α) : cutL xs (some 1) none = xs.drop 1 := by
  unfold cutL
  rw [HT.sIx_none, show HT.sIx xs.length 0 (some 1) = min 1 xs.length from HT.sIx_nat _ _ 1]
  cases xs with
  | nil => rfl
  | cons x xs => simp [List.take_of_length_le]
theorem cutL_to {α : Type} (xs : List α) (n : Nat) : cutL xs none (some (n : Int)) = xs.take n := by
  unfold cutL
  rw [HT.sIx_none, HT.sIx_nat]
  simp only [List.drop_zero, Nat.sub_zero]
  by_cases h : n <= xs.length
  · rw [Nat.min_eq_left h]
  · rw [Nat.min_eq_right (by omega), List.take_of_length_le (Nat.le_refl _), List.take_of_length_le (by omega)]
def catchM (kx : List Str) (m : M D) : M D := fun s => match m s with
  | none => none
  | some (.ok _, s') => some (.ok .non, s')
  | some (.err x, s') => if kx.contains x.cls then some (.ok (.exc x.cls x.ns x.xs), s') else none
theorem gCaught_def (kx : List Str) (f : SE) (G : Sls) : gCaught kx f G = catchM kx (f G) := rfl
theorem catchM_ret (kx : List Str) (d : D) : catchM kx (ret d) = ret .non := rfl
theorem catchM_throw (kx : List Str) (x : Exn) (h : kx.contains x.cls = true) : catchM kx (EK.throw x) = ret (.exc x.cls x.ns x.xs) := by
  funext s
  show (if kx.contains x.cls then _ else _) = _
  rw [h]
  rfl
theorem bnd_throw {α β : Type} (x : Exn) (k : α -> M β) : bnd (EK.throw x) k = EK.throw x := rfl
end
end EK
local macro_rules
  | `(tactic| simp! [$xs,*]) => `(tactic| simp -implicitDefEqProofs only [EK.sThrow0, EK.sThrow1, EK.gCaught_def, EK.catchM_ret, EK.bnd_throw, EK.gCallK, EK.pickL, List.filterMap_cons, List.filterMap_nil, EK.runB, EK.startG, EK.runI,
      EK.startI, EK.sSeq, EK.sAsg, EK.sRet, EK.sIf, EK.sFor, EK.sOwn, EK.sApp, EK.sFrz, EK.frz, EK.sExpr, EK.sNil,
      EK.sFldC, EK.sFldI, EK.sPar, EK.slF, EK.slO, EK.gv, EK.sa0, EK.saC, EK.saS, EK.gLst, EK.gTup, EK.g2,
      EK.g1, EK.gC, EK.tB', EK.g3, EK.bAnd, EK.bOr, EK.bNot, EK.vAnd, EK.vOr, EK.vNot, EK.vIf, EK.gLO,
      EK.gIt, EK.gItO, EK.gItC, EK.gLc, EK.gLc2, EK.gLD, EK.gLO1, EK.gLenO, EK.gSl, EK.oSome, EK.oNone, EK.gFld,
      EK.gMeth, EK.gMeth0, EK.gMake, EK.gCall, EK.g2M, EK.g1M, EK.gCM, EK.opC, EK.unC, EK.both, EK.negM, EK.lenC,
      EK.asLen, EK.gIxO, EK.sSetO, EK.ixO, EK.setO, EK.g2O, EK.g2O', EK.ownAt, EK.sgN, EK.sgT, EK.sgCons, EK.sgNil,
      EK.itemsOf_lst, EK.itemsOf_tup, EK.itemsTL_lst, EK.itemsTL_tup, EK.itemsT_tup, EK.asB_bl, EK.asI_int, EK.tupleD_lst, EK.tupleD_tup, EK.listD_lst, EK.listD_tup, EK.leI_int,
      EK.ltI_int, EK.gtI_int, EK.geI_int, EK.addD_int, EK.subD_int, EK.eqD_int, EK.neD_int, EK.eqD_bl, EK.neD_bl, EK.intD_int, EK.sliceD_lst, EK.sliceD_tup,
      EK.cutL_from1, EK.cutL_to, EK.wipeG, EK.fzG, EK.fzS, EK.yes, EK.lcB, EK.gProp, List.map_cons, List.map_nil, List.length_cons, List.length_nil,
      List.replicate, List.cons_append, List.nil_append, List.getElem?_cons_zero, List.getElem?_cons_succ, List.set_cons_zero, List.set_cons_succ, List.set_nil, Option.map_some, Option.bind_some, EK.bnd_ret, EK.bnd_assoc,
      EK.ofO_some, EK.noErr_ret, EK.orM_some, EK.noErrK_ret, if_true, if_false, Nat.reduceSub, Nat.reduceAdd, Nat.reduceEqDiff, Nat.zero_add, Nat.sub_zero, Nat.sub_self,
      Nat.reduceLeDiff, EK.sl0, EK.sl1, EK.sl2, EK.sl3, EK.sl4, EK.sl5, EK.sl6, EK.sl7, EK.sl8, EK.sl9, EK.sl10,
      EK.sl11, EK.sl12, EK.sl13, Bool.not_true, Bool.not_false, Bool.false_eq_true, Bool.and_self, Bool.and_true, Bool.true_and, Bool.false_and, decide_true, decide_eq_true_eq,
      reduceIte, Option.map_none, Option.bind_none, Option.pure_def, Option.bind_eq_bind, $xs,*])
namespace EKL
open PySem PySem.Spec PyProof.Rows L2 EK
section
def b_is_list : SS := (sRet (g1 (isiD [] fun t => List.lookup t ([("NoneType", false), ("bool", false), ("int", false), ("str", false), ("tuple", true), ("list", true), ("dict", false)] : List (String × Bool))) (gv 0)))
def m_is_list : List D -> M D := runB 1 b_is_list
def b_is_name : SS := (sRet (vAnd (g1 (isiD [] fun t => List.lookup t ([("NoneType", false), ("bool", false), ("int", false), ("str", true), ("tuple", false), ("list", false), ("dict", false)] : List (String × Bool))) (gv 0)) (vAnd (g3 leI leI (fun _ => ret (.int 1)) (gC lenD (saC (gv 0) sa0)) (fun _ => ret (.int 6))) (gC allD (saC (gLO (gLc [1] (gIt (gv 0)) (sgN 1) yes (g2 inD (gv 1) (fun _ => ret (.str "abcdefghijklmnopqrstuvwxyz"))))) sa0)))))
def m_is_name : List D -> M D := runB 2 b_is_name
def b_are_machines : SS := (sSeq (sIf (bOr (bNot (tB' (gCall 1 m_is_list (saC (gv 0) sa0)))) (bOr (bNot (tB' (g3 leI leI (fun _ => ret (.int 1)) (gC lenD (saC (gv 0) sa0)) (fun _ => ret (.int 5))))) (bNot (tB' (gC allD (saC (gLO (gLc [1] (gIt (gv 0)) (sgN 1) yes (gCall 1 m_is_name (saC (gv 1) sa0)))) sa0)))))) (sRet (fun _ => ret (.bl false))) sNil) (sRet (g2 eqD (g1 (setD lenS) (gv 0)) (gC lenD (saC (gv 0) sa0)))))
def m_are_machines : List D -> M D := runB 2 b_are_machines
def b_is_lot : SS := (sSeq (sIf (bOr (bNot (tB' (g1 (isiD [] fun t => List.lookup t ([("NoneType", false), ("bool", false), ("int", false), ("str", false), ("tuple", true), ("list", false), ("dict", false)] : List (String × Bool))) (gv 1)))) (bNot (tB' (gC allD (saC (gLO (gLc [2] (gIt (gv 1)) (sgN 2) yes (vAnd (g1 (isiD [] fun t => List.lookup t ([("NoneType", false), ("bool", false), ("int", false), ("str", true), ("tuple", false), ("list", false), ("dict", false)] : List (String × Bool))) (gv 2)) (g2 inD (gv 2) (gv 0))))) sa0))))) (sRet (fun _ => ret (.bl false))) sNil) (sRet (gC allD (saC (gLO (gLc [3, 4] (gItC zip2 (saC (gv 1) (saC (gSl (gv 1) (oSome (fun _ => ret (.int 1))) oNone) sa0))) (sgT (sgCons (sgN 3) (sgCons (sgN 4) sgNil))) yes (g2 ltP (gv 3) (gv 4)))) sa0))))
def m_is_lot : List D -> M D := runB 5 b_is_lot
def b_are_lots : SS := (sRet (vAnd (gCall 1 m_is_list (saC (gv 1) sa0)) (vAnd (g2 leI (gC lenD (saC (gv 1) sa0)) (fun _ => ret (.int 32))) (gC allD (saC (gLO (gLc [2] (gIt (gv 1)) (sgN 2) yes (gCall 2 m_is_lot (saC (gv 0) (saC (gv 2) sa0))))) sa0)))))
def m_are_lots : List D -> M D := runB 3 b_are_lots
def b_in_order : SS := (sRet (gLO (gLc [1, 2] (gIt (gC sortedD (saC (gLO (gLc [2] (gIt (gv 0)) (sgN 2) yes (EK.gTup (saC (gC lenD (saC (gv 2) sa0)) (saC (gv 2) sa0))))) sa0))) (sgT (sgCons (sgN 1) (sgCons (sgN 2) sgNil))) yes (gv 2))))
def m_in_order : List D -> M D := runB 3 b_in_order
def b_is_inside : SS := (sRet (gC allD (saC (gLO (gLc [2] (gIt (gv 0)) (sgN 2) yes (g2 inD (gv 2) (gv 1)))) sa0)))
def m_is_inside : List D -> M D := runB 3 b_is_inside
def b_least_of : SS := (sSeq (sOwn 1 (gLD sa0)) (sSeq (sFor (gIt (gCall 1 m_in_order (saC (gv 0) sa0))) (sgN 2) (sIf (bNot (tB' (gC anyD (saC (gLO (gLc [3] (gItO 1) (sgN 3) yes (gCall 2 m_is_inside (saC (gv 3) (saC (gv 2) sa0))))) sa0)))) (sApp 1 (gv 2)) sNil)) (sFrz 1 (sRet (gv 1)))))
def m_least_of : List D -> M D := runB 4 b_least_of
def b_Family___init__ : SS := (sSeq (sIf (bNot (tB' (gCall 1 m_are_machines (saC (gv 1) sa0)))) (sThrow1 "BadFamily" "part" (fun _ => ret (.str "machines"))) sNil) (sSeq (sIf (bNot (tB' (gCall 2 m_are_lots (saC (gv 1) (saC (gv 2) sa0))))) (sThrow1 "BadFamily" "part" (fun _ => ret (.str "lots"))) sNil) (sSeq (sFldC "Family" "own_machines" (gC tupleD (saC (gC sortedD (saC (gv 1) sa0)) sa0))) (sFldC "Family" "own_least" (gCall 1 m_least_of (saC (gv 2) sa0))))))
def m_Family___init__ : List D -> M (List Str × List D) := runI "Family" 3 b_Family___init__
def b_holds : SS := (sRet (gC anyD (saC (gLO (gLc [2] (gIt (gFld "Family" "own_least" (gv 0))) (sgN 2) yes (gCall 2 m_is_inside (saC (gv 2) (saC (gv 1) sa0))))) sa0)))
def m_holds : List D -> M D := runB 3 b_holds
def b_Family___len__ : SS := (sRet (gC lenD (saC (gFld "Family" "own_least" (gv 0)) sa0)))
def m_Family___len__ : List D -> M D := runB 1 b_Family___len__
def b_Family_enough : SS := (sSeq (sIf (bNot (tB' (gCall 2 m_is_lot (saC (gFld "Family" "own_machines" (gv 0)) (saC (gv 1) sa0))))) (sThrow0 "BadLot") sNil) (sRet (gCall 2 m_holds (saC (gv 0) (saC (gv 1) sa0)))))
def m_Family_enough : List D -> M D := runB 2 b_Family_enough
end
end EKL
namespace EK
open PySem PySem.Spec PyProof.Rows L2
section
abbrev Lot := List Str
def sLt (x y : Str) : Bool := PySem.W.dataLt (.str x) (.str y)
theorem sLt_irrefl (x : Str) : sLt x x = false := lex_irrefl (O := itemOrd) _
theorem sLt_trans {x y z : Str} (h : sLt x y = true) (h' : sLt y z = true) : sLt x z = true := lex_trans (O := itemOrd) _ _ _ h h'
theorem sLt_total {x y : Str} (h : sLt x y = false) (h' : sLt y x = false) : x = y := by
  have e := lex_total (O := itemOrd) _ _ h h'
  simp only [PySem.W.keyToks, List.cons.injEq, Sum.inr.injEq, and_true] at e
  exact PySem.W.str_of_cps e
theorem sLt_ne {x y : Str} (h : sLt x y = true) : x ≠ y := fun e => by rw [e, sLt_irrefl] at h; cases h
theorem ext_pw {α : Type} {r : α -> α -> Prop} (irr : ∀ a, ¬ r a a) (tr : ∀ a b c, r a b -> r b c -> r a c) : ∀ (l l' : List α), l.Pairwise r -> l'.Pairwise r -> (∀ x, x ∈ l ↔ x ∈ l') -> l = l'
  | [], [], _, _, _ => rfl
  | [], y :: _, _, _, h => by have := (h y).mpr (.head _); cases this
  | x :: _, [], _, _, h => by have := (h x).mp (.head _); cases this
  | x :: l, y :: l', p, q, h => by
    obtain ⟨p1, p2⟩ := List.pairwise_cons.mp p
    obtain ⟨q1, q2⟩ := List.pairwise_cons.mp q
    have e : x = y := by
      rcases List.mem_cons.mp ((h x).mp (.head _)) with e | e
      · exact e
      · rcases List.mem_cons.mp ((h y).mpr (.head _)) with e' | e'
        · exact e'.symm
        · exact absurd (tr _ _ _ (p1 _ e') (q1 _ e)) (irr _)
    subst e
    rw [ext_pw irr tr l l' p2 q2 fun z => ?_]
    constructor
    · intro hz
      rcases List.mem_cons.mp ((h z).mp (.tail _ hz)) with e | e
      · subst e; exact absurd (p1 _ hz) (irr _)
      · exact e
    · intro hz
      rcases List.mem_cons.mp ((h z).mpr (.tail _ hz)) with e | e
      · subst e; exact absurd (q1 _ hz) (irr _)
      · exact e
def Asc (x : Lot) : Prop := x.Pairwise fun a b => sLt a b = true
theorem Asc.nodup {x : Lot} (h : Asc x) : x.Nodup := h.imp sLt_ne
theorem Asc.ext {x y : Lot} (h : Asc x) (h' : Asc y) (e : ∀ n, n ∈ x ↔ n ∈ y) : x = y :=
  ext_pw (r := fun a b => sLt a b = true) (fun a q => by rw [sLt_irrefl] at q; cases q) (fun _ _ _ => sLt_trans) x y h h' e
theorem Asc.filter {x : Lot} (h : Asc x) (p : Str -> Bool) : Asc (x.filter p) := List.Pairwise.filter p h
def inside (a b : Lot) : Bool := a.all fun n => decide (n ∈ b)
theorem inside_iff {a b : Lot} : inside a b = true ↔ ∀ n ∈ a, n ∈ b := by
  unfold inside
  simp
theorem inside_refl (a : Lot) : inside a a = true := inside_iff.mpr fun _ h => h
theorem inside_trans {a b c : Lot} (h : inside a b = true) (h' : inside b c = true) : inside a c = true := inside_iff.mpr fun n q => inside_iff.mp h' n (inside_iff.mp h n q)
theorem Asc.antisymm {a b : Lot} (h : Asc a) (h' : Asc b) (p : inside a b = true) (q : inside b a = true) : a = b := h.ext h' fun n => ⟨inside_iff.mp p n, inside_iff.mp q n⟩
def com (a b : Lot) : Lot := a.filter fun n => decide (n ∈ b)
def dif (x d : Lot) : Lot := x.filter fun n => !decide (n ∈ d)
theorem mem_com {a b : Lot} {n : Str} : n ∈ com a b ↔ n ∈ a /\ n ∈ b := by unfold com; simp
theorem mem_dif {a b : Lot} {n : Str} : n ∈ dif a b ↔ n ∈ a /\ n ∉ b := by unfold dif; simp
theorem len_le_of_sub {α : Type} : ∀ {l l' : List α}, l.Nodup -> (∀ x ∈ l, x ∈ l') -> l.length <= l'.length
  | [], _, _, _ => Nat.zero_le _
  | x :: l, l', n, h => by
    obtain ⟨n1, n2⟩ := List.nodup_cons.mp n
    obtain ⟨a, b, e⟩ := List.append_of_mem (h x (.head _))
    have := len_le_of_sub (l := l) (l' := a ++ b) n2 fun y hy => by
      have := h y (.tail _ hy)
      rw [e] at this
      rcases List.mem_append.mp this with q | q
      · exact List.mem_append_left _ q
      · rcases List.mem_cons.mp q with q | q
        · subst q; exact absurd hy n1
        · exact List.mem_append_right _ q
    rw [e]
    simp only [List.length_cons, List.length_append] at this ⊢
    omega
def lotKey (l : Lot) : PyData := .tuple [.int l.length, .tuple (l.map .str)]
def lotLe (a b : Lot) : Bool := PySem.W.dataLe false lotKey a b
def lotLt (a b : Lot) : Bool := PySem.W.dataLt (lotKey a) (lotKey b)
theorem lotLe_eq (a b : Lot) : lotLe a b = !lotLt b a := rfl
theorem toks_strs_inj : ∀ {a b : Lot}, PySem.W.keyToksAll (a.map PyData.str) = PySem.W.keyToksAll (b.map PyData.str) -> a = b
  | [], [], _ => rfl
  | [], _ :: _, h => by simp [PySem.W.keyToksAll] at h
  | _ :: _, [], h => by simp [PySem.W.keyToksAll] at h
  | x :: a, y :: b, h => by
    simp only [List.map_cons, PySem.W.keyToksAll, PySem.W.keyToks, List.cons_append, List.nil_append, List.cons.injEq, Sum.inr.injEq, true_and] at h
    rw [PySem.W.str_of_cps h.1, toks_strs_inj h.2]
theorem lotLt_irrefl (a : Lot) : lotLt a a = false := lex_irrefl (O := itemOrd) _
theorem lotLt_trans {a b c : Lot} (h : lotLt a b = true) (h' : lotLt b c = true) : lotLt a c = true := lex_trans (O := itemOrd) _ _ _ h h'
theorem lotLt_total {a b : Lot} (h : lotLt a b = false) (h' : lotLt b a = false) : a = b := by
  have e := lex_total (O := itemOrd) _ _ h h'
  simp only [lotKey, PySem.W.keyToks, PySem.W.keyToksAll, List.cons_append, List.nil_append, List.cons.injEq, Sum.inl.injEq, true_and, List.append_cancel_right_eq] at e
  exact toks_strs_inj e.2
theorem lotLt_len {a b : Lot} (h : a.length < b.length) : lotLt a b = true := by
  unfold lotLt PySem.W.dataLt lotKey
  simp only [PySem.W.keyToks, PySem.W.keyToksAll, List.cons_append, List.nil_append]
  rw [lex_self (O := itemOrd)]
  exact lex_true.mpr (.inl (decide_eq_true (by omega)))
theorem lotLe_total : PySem.W.TotalLe lotLe := (PySem.W.sortLe_total _ _ _ : PySem.W.TotalLe (PySem.W.dataLe false lotKey))
def sortLots (xs : List Lot) : List Lot := xs.mergeSort lotLe
theorem mem_sortLots {xs : List Lot} {x : Lot} : x ∈ sortLots xs ↔ x ∈ xs := List.mem_mergeSort
theorem sortLots_pw (xs : List Lot) : (sortLots xs).Pairwise fun a b => lotLe a b = true := PySem.W.sort_pairwise lotLe_total xs
def stepL (f : List Lot) (l : Lot) : List Lot := if f.any (fun a => inside a l) then f else f ++ [l]
def leastOf (xs : List Lot) : List Lot := (sortLots xs).foldl stepL []
def hol (L : List Lot) (x : Lot) : Bool := L.any fun a => inside a x
theorem hol_iff {L : List Lot} {x : Lot} : hol L x = true ↔ ∃ a ∈ L, inside a x = true := by unfold hol; simp
structure Canon (L : List Lot) : Prop where
  asc : ∀ x ∈ L, Asc x
  ord : L.Pairwise fun a b => lotLt a b = true
  anti : ∀ a ∈ L, ∀ b ∈ L, inside a b = true -> a = b
theorem Canon.nodup {L : List Lot} (h : Canon L) : L.Nodup := h.ord.imp fun {a b} h e => by rw [e, lotLt_irrefl] at h; cases h
theorem Canon.ext {L L' : List Lot} (h : Canon L) (h' : Canon L') (e : ∀ x, x ∈ L \/ x ∈ L' -> hol L x = hol L' x) : L = L' := by
  have one : ∀ {L L' : List Lot}, Canon L -> Canon L' -> (∀ x, x ∈ L \/ x ∈ L' -> hol L x = hol L' x) -> ∀ x ∈ L, x ∈ L' := by
    intro L L' h h' e x hx
    have h1 : hol L' x = true := by rw [<- e x (.inl hx)]; exact hol_iff.mpr ⟨x, hx, inside_refl x⟩
    obtain ⟨y, hy, i1⟩ := hol_iff.mp h1
    have h2 : hol L y = true := by rw [e y (.inr hy)]; exact hol_iff.mpr ⟨y, hy, inside_refl y⟩
    obtain ⟨z, hz, i2⟩ := hol_iff.mp h2
    have q := h.anti z hz x hx (inside_trans i2 i1)
    subst q
    have := (h.asc z hz).antisymm (h'.asc y hy) i2 i1
    rw [this]; exact hy
  exact ext_pw (r := fun a b => lotLt a b = true) (fun a q => by rw [lotLt_irrefl] at q; cases q) (fun _ _ _ => lotLt_trans) L L' h.ord h'.ord fun x =>
    ⟨one h h' e x, one h' h (fun x hx => (e x hx.symm).symm) x⟩
structure LInv (p f : List Lot) : Prop where
  sub : ∀ x ∈ f, x ∈ p
  cov : ∀ x ∈ p, ∃ a ∈ f, inside a x = true
  ord : f.Pairwise fun a b => lotLt a b = true
  anti : ∀ a ∈ f, ∀ b ∈ f, inside a b = true -> a = b
theorem LInv.step {p f : List Lot} {l : Lot} (h : LInv p f) (ha : ∀ x ∈ p, Asc x) (hl : Asc l) (hp : ∀ x ∈ p, lotLe x l = true) : LInv (p ++ [l]) (stepL f l) := by
  unfold stepL
  cases e : f.any fun a => inside a l with
  | true =>
    rw [if_pos rfl]
    refine ⟨fun x hx => List.mem_append_left _ (h.sub x hx), fun x hx => ?_, h.ord, h.anti⟩
    rcases List.mem_append.mp hx with q | q
    · exact h.cov x q
    · rw [List.mem_singleton.mp q]
      obtain ⟨a, h1, h2⟩ := List.any_eq_true.mp e
      exact ⟨a, h1, h2⟩
  | false =>
    rw [if_neg (by simp)]
    have no : ∀ a ∈ f, inside a l = false := fun a q => by simpa using List.any_eq_false.mp e a q
    have no' : ∀ a ∈ f, inside l a = false := fun a q => by
      cases w : inside l a with
      | false => rfl
      | true =>
        have le := hp a (h.sub a q)
        rw [lotLe_eq] at le
        have len : a.length <= l.length := by
          by_cases z : l.length < a.length
          · rw [lotLt_len z] at le; cases le
          · omega
        have len2 : l.length <= a.length := len_le_of_sub hl.nodup (inside_iff.mp w)
        have aa := ha a (h.sub a q)
        have : inside a l = true := inside_iff.mpr fun n hn => by
          by_cases z : n ∈ l
          · exact z
          · have := len_le_of_sub (l := n :: l) (l' := a) (List.nodup_cons.mpr ⟨z, hl.nodup⟩) (fun y hy => by
              rcases List.mem_cons.mp hy with rfl | hy
              · exact hn
              · exact inside_iff.mp w y hy)
            simp only [List.length_cons] at this
            omega
        rw [no a q] at this; cases this
    refine ⟨fun x hx => ?_, fun x hx => ?_, ?_, ?_⟩
    · rcases List.mem_append.mp hx with q | q
      · exact List.mem_append_left _ (h.sub x q)
      · exact List.mem_append_right _ q
    · rcases List.mem_append.mp hx with q | q
      · obtain ⟨a, h1, h2⟩ := h.cov x q
        exact ⟨a, List.mem_append_left _ h1, h2⟩
      · exact ⟨l, List.mem_append_right _ (.head _), by rw [List.mem_singleton.mp q]; exact inside_refl l⟩
    · refine List.pairwise_append.mpr ⟨h.ord, List.pairwise_singleton _ _, fun a q b hb => ?_⟩
      rw [List.mem_singleton.mp hb]
      have le := hp a (h.sub a q)
      rw [lotLe_eq] at le
      cases z : lotLt a l with
      | true => rfl
      | false =>
        have := lotLt_total z (by simpa using le)
        subst this
        have := no a q
        rw [inside_refl] at this; cases this
    · intro a ha' b hb i
      rcases List.mem_append.mp ha' with q | q <;> rcases List.mem_append.mp hb with r | r
      · exact h.anti a q b r i
      · rw [List.mem_singleton.mp r, no a q] at i; cases i
      · rw [List.mem_singleton.mp q, no' b r] at i; cases i
      · rw [List.mem_singleton.mp q, List.mem_singleton.mp r]
theorem least_fold : ∀ (xs p f : List Lot), LInv p f -> (∀ x ∈ p, Asc x) -> (∀ x ∈ xs, Asc x) -> (p ++ xs).Pairwise (fun a b => lotLe a b = true) -> LInv (p ++ xs) (xs.foldl stepL f)
  | [], p, f, h, _, _, _ => by rw [List.append_nil]; exact h
  | x :: xs, p, f, h, hp, hx, hs => by
    have e : p ++ x :: xs = (p ++ [x]) ++ xs := by simp
    rw [e]
    refine least_fold xs (p ++ [x]) (stepL f x) (h.step hp (hx x (.head _)) fun y hy => ?_) ?_ (fun y hy => hx y (.tail _ hy)) (by rw [<- e]; exact hs)
    · exact (List.pairwise_append.mp hs).2.2 y hy x (.head _)
    · intro y hy
      rcases List.mem_append.mp hy with q | q
      · exact hp y q
      · rw [List.mem_singleton.mp q]; exact hx x (.head _)
theorem least_inv {xs : List Lot} (h : ∀ x ∈ xs, Asc x) : LInv (sortLots xs) (leastOf xs) := by
  unfold leastOf
  have := least_fold (sortLots xs) [] [] ⟨fun _ h => h, fun _ h => (nomatch h), .nil, fun _ h => (nomatch h)⟩ (fun _ h => (nomatch h)) (fun x hx => h x (mem_sortLots.mp hx)) (by simpa using sortLots_pw xs)
  simpa using this
theorem leastOf_mem {xs : List Lot} (h : ∀ x ∈ xs, Asc x) {x : Lot} (hx : x ∈ leastOf xs) : x ∈ xs := mem_sortLots.mp ((least_inv h).sub x hx)
theorem leastOf_canon {xs : List Lot} (h : ∀ x ∈ xs, Asc x) : Canon (leastOf xs) := ⟨fun _ hx => h _ (leastOf_mem h hx), (least_inv h).ord, (least_inv h).anti⟩
theorem hol_leastOf {xs : List Lot} (h : ∀ x ∈ xs, Asc x) (y : Lot) : hol (leastOf xs) y = hol xs y := by
  rw [Bool.eq_iff_iff, hol_iff, hol_iff]
  constructor
  · rintro ⟨a, h1, h2⟩
    exact ⟨a, leastOf_mem h h1, h2⟩
  · rintro ⟨a, h1, h2⟩
    obtain ⟨b, h3, h4⟩ := (least_inv h).cov a (mem_sortLots.mpr h1)
    exact ⟨b, h3, inside_trans h4 h2⟩
theorem Canon.least {L : List Lot} (h : Canon L) : leastOf L = L := (leastOf_canon h.asc).ext h fun x _ => hol_leastOf h.asc x
theorem strLe_total : PySem.W.TotalLe (PySem.W.dataLe false PyData.str) := PySem.W.sortLe_total _ _ _
theorem sortS_asc {xs : Lot} (h : xs.Nodup) : Asc (sortS xs) := by
  have s := PySem.W.sort_pairwise strLe_total xs
  have n : (sortS xs).Nodup := (List.mergeSort_perm xs _).nodup_iff.mpr h
  unfold Asc
  have := List.Pairwise.and s n
  refine this.imp fun {a b} ⟨q, ne⟩ => ?_
  have q : (!sLt b a) = true := q
  cases z : sLt a b with
  | true => rfl
  | false => exact absurd (sLt_total z (by simpa using q)) ne
theorem mem_sortS {xs : Lot} {n : Str} : n ∈ sortS xs ↔ n ∈ xs := List.mem_mergeSort
theorem foldK_of {α : Type} [DecidableEq α] : ∀ (xs ks : List α), (ks ++ xs).Nodup -> xs.foldl addK ks = ks ++ xs
  | [], ks, _ => by simp
  | y :: xs, ks, h => by
    have e : ks ++ y :: xs = (ks ++ [y]) ++ xs := by simp
    have n : y ∉ ks := fun q => (List.nodup_append.mp h).2.2 y q y (.head _) rfl
    rw [List.foldl_cons, addK, if_neg n, foldK_of xs _ (by rw [<- e]; exact h), <- e]
theorem dedupK_of {α : Type} [DecidableEq α] {xs : List α} (h : xs.Nodup) : dedupK xs = xs := by
  unfold dedupK
  rw [foldK_of xs [] (by simpa using h)]
  rfl
theorem sortS_perm {xs ys : Lot} (h : xs.Perm ys) (ha : Asc ys) : sortS xs = ys :=
  (sortS_asc (h.nodup_iff.mpr ha.nodup)).ext ha fun n => by rw [mem_sortS]; exact h.mem_iff
def subsF (ms : Lot) (f : List Lot) : List Lot := ms.foldl (fun f n => f ++ f.map (· ++ [n])) f
theorem mem_subsF : ∀ (ms : Lot) (f : List Lot) (x : Lot), x ∈ subsF ms f ↔ ∃ a ∈ f, ∃ s, s.Sublist ms /\ x = a ++ s
  | [], f, x => by simp [subsF]
  | n :: ms, f, x => by
    have : subsF (n :: ms) f = subsF ms (f ++ f.map (· ++ [n])) := rfl
    rw [this, mem_subsF ms]
    constructor
    · rintro ⟨a, ha, s, hs, rfl⟩
      rcases List.mem_append.mp ha with q | q
      · exact ⟨a, q, s, hs.cons _, rfl⟩
      · obtain ⟨b, hb, rfl⟩ := List.mem_map.mp q
        exact ⟨b, hb, n :: s, hs.cons_cons _, by simp⟩
    · rintro ⟨a, ha, s, hs, rfl⟩
      cases hs with
      | cons _ hs => exact ⟨a, List.mem_append_left _ ha, s, hs, rfl⟩
      | cons_cons _ hs => exact ⟨a ++ [n], List.mem_append_right _ (List.mem_map.mpr ⟨a, ha, rfl⟩), _, hs, by simp⟩
theorem subsF_len : ∀ (ms : Lot) (f : List Lot), (subsF ms f).length = 2 ^ ms.length * f.length
  | [], f => by simp [subsF]
  | n :: ms, f => by
    have : subsF (n :: ms) f = subsF ms (f ++ f.map (· ++ [n])) := rfl
    rw [this, subsF_len ms, List.length_append, List.length_map, List.length_cons, Nat.pow_succ, Nat.mul_assoc]
    congr 1
    omega
structure LotOf (ms x : Lot) : Prop where
  asc : Asc x
  sub : ∀ n ∈ x, n ∈ ms
theorem LotOf.eq {ms x : Lot} (h : LotOf ms x) (hm : Asc ms) : x = ms.filter fun n => decide (n ∈ x) := h.asc.ext (hm.filter _) fun n => by
  rw [List.mem_filter]
  simp only [decide_eq_true_eq]
  exact ⟨fun q => ⟨h.sub n q, q⟩, fun q => q.2⟩
theorem LotOf.sublist {ms x : Lot} (h : LotOf ms x) (hm : Asc ms) : x.Sublist ms := by
  rw [h.eq hm]
  exact List.filter_sublist
structure FamL (ms : Lot) (A : List Lot) : Prop where
  ma : Asc ms
  can : Canon A
  lot : ∀ a ∈ A, LotOf ms a
theorem FamL.of {ms : Lot} {xs : List Lot} (hm : Asc ms) (h : ∀ x ∈ xs, LotOf ms x) : FamL ms (leastOf xs) :=
  ⟨hm, leastOf_canon fun x q => (h x q).asc, fun x q => h x (leastOf_mem (fun x q => (h x q).asc) q)⟩
theorem FamL.len {ms : Lot} {A : List Lot} (h : FamL ms A) (hn : ms ≠ []) : A.length <= 2 ^ (ms.length - 1) := by
  cases ms with
  | nil => exact absurd rfl hn
  | cons m r =>
    have nd : (A.map fun a => EK.dif a [m]).Nodup := by
      refine (List.pairwise_map).mpr ?_
      refine (List.Pairwise.and_mem.mp h.can.nodup).imp fun {a b} ⟨ha, hb, ne⟩ e => ne ?_
      have key : ∀ n, n ≠ m -> (n ∈ a ↔ n ∈ b) := fun n q => by
        have := congrArg (fun z => n ∈ z) e
        simp only [mem_dif, List.mem_singleton, q, not_false_iff, and_true] at this
        exact iff_of_eq this
      by_cases hm : m ∈ a
      · refine (h.can.anti b hb a ha (inside_iff.mpr fun n q => ?_)).symm
        by_cases z : n = m
        · rw [z]; exact hm
        · exact (key n z).mpr q
      · refine h.can.anti a ha b hb (inside_iff.mpr fun n q => ?_)
        by_cases z : n = m
        · rw [z] at q; exact absurd q hm
        · exact (key n z).mp q
    have := len_le_of_sub (l' := subsF r [[]]) nd fun x hx => by
      obtain ⟨a, ha, rfl⟩ := List.mem_map.mp hx
      refine (mem_subsF r [[]] _).mpr ⟨[], .head _, _, LotOf.sublist (ms := r) ⟨(h.lot a ha).asc.filter _, fun n q => ?_⟩ (List.pairwise_cons.mp h.ma).2, rfl⟩
      obtain ⟨q1, q2⟩ := mem_dif.mp q
      rcases List.mem_cons.mp ((h.lot a ha).sub n q1) with z | z
      · exact absurd (List.mem_singleton.mpr z) q2
      · exact z
    rw [List.length_map, subsF_len] at this
    simpa using this
theorem FamL.len16 {ms : Lot} {A : List Lot} (h : FamL ms A) (h1 : 1 <= ms.length) (h5 : ms.length <= 5) : A.length <= 16 := by
  have := h.len (by intro e; rw [e] at h1; cases h1)
  have : 2 ^ (ms.length - 1) <= 2 ^ 4 := Nat.pow_le_pow_right (by decide) (by omega)
  omega
end
section
structure Shp (p : PyData) (n : Nat) : Prop where
  lay : p.canLay0 = true
  dep : p.depth <= n
theorem Shp.shaped {p : PyData} {n : Nat} (h : Shp p n) (l : n <= 64) : SeqAt.shaped p = true := by
  unfold SeqAt.shaped
  rw [h.lay, Bool.true_and]
  exact decide_eq_true (Nat.le_trans h.dep l)
theorem Shp.mono {p : PyData} {n k : Nat} (h : Shp p n) (l : n <= k) : Shp p k := ⟨h.lay, Nat.le_trans h.dep l⟩
theorem Shp.int (i : Int) : Shp (.int i) 0 := ⟨by simp [PyData.canLay0], by simp [PyData.depth]⟩
theorem Shp.none : Shp .none 0 := ⟨by simp [PyData.canLay0], by simp [PyData.depth]⟩
theorem Shp.str {x : Str} (h : PyData.strOk x = true) : Shp (.str x) 0 := ⟨by simpa [PyData.canLay0] using h, by simp [PyData.depth]⟩
theorem Shp.all {n : Nat} : ∀ {ps : List PyData}, (∀ p ∈ ps, Shp p n) -> PyData.canLayAll0 ps = true /\ PyData.depthAll ps <= n
  | [], _ => ⟨by simp [PyData.canLayAll0], by simp [PyData.depthAll]⟩
  | p :: ps, h => by
    have a := h p (.head _)
    have b := Shp.all fun q hq => h q (.tail _ hq)
    refine ⟨by rw [PyData.canLayAll0, a.lay, b.1]; rfl, ?_⟩
    rw [PyData.depthAll]
    exact Nat.max_le.mpr ⟨a.dep, b.2⟩
theorem Shp.tuple {n : Nat} {ps : List PyData} (h : ∀ p ∈ ps, Shp p n) : Shp (.tuple ps) (n + 1) :=
  ⟨by rw [PyData.canLay0]; exact (Shp.all h).1, by rw [PyData.depth]; exact Nat.succ_le_succ (Shp.all h).2⟩
theorem Shp.list {n : Nat} {ps : List PyData} (h : ∀ p ∈ ps, Shp p n) : Shp (.list ps) (n + 1) :=
  ⟨by rw [PyData.canLay0]; exact (Shp.all h).1, by rw [PyData.depth]; exact Nat.succ_le_succ (Shp.all h).2⟩
def EqF {α : Type} [DecidableEq α] (f : α -> PyData) : Prop := ∀ a b, PyData.eqv (f a) (f b) = decide (a = b)
theorem EqF.str : EqF PyData.str := fun a b => by
  simp only [PyData.eqv]
  by_cases h : a = b
  · subst h; simp
  · simp [h]
theorem EqF.all {α : Type} [DecidableEq α] {f : α -> PyData} (h : EqF f) : ∀ a b : List α, PyData.eqvAll (a.map f) (b.map f) = decide (a = b)
  | [], [] => by simp [PyData.eqvAll]
  | [], _ :: _ => by simp [PyData.eqvAll]
  | _ :: _, [] => by simp [PyData.eqvAll]
  | x :: a, y :: b => by
    rw [List.map_cons, List.map_cons, PyData.eqvAll, h x y, EqF.all h a b]
    by_cases p : x = y <;> by_cases q : a = b <;> simp [p, q]
theorem EqF.tuple {α : Type} [DecidableEq α] {f : α -> PyData} (h : EqF f) : EqF (fun xs : List α => PyData.tuple (xs.map f)) := fun a b => by
  simp only [PyData.eqv]
  exact h.all a b
theorem EqF.list {α : Type} [DecidableEq α] {f : α -> PyData} (h : EqF f) : EqF (fun xs : List α => PyData.list (xs.map f)) := fun a b => by
  simp only [PyData.eqv]
  exact h.all a b
theorem toPs_map {α : Type} {g : α -> D} {f : α -> PyData} : ∀ (xs : List α), (∀ x ∈ xs, toP (g x) = some (f x)) -> toPs (xs.map g) = some (xs.map f)
  | [], _ => rfl
  | x :: xs, h => by
    rw [List.map_cons, toPs, h x (.head _), Option.bind_some, toPs_map xs fun y hy => h y (.tail _ hy)]
    rfl
theorem p2_of {g : PyData -> PyData -> D} {a b : D} {p q : PyData} (ha : toP a = some p) (hb : toP b = some q) {n k : Nat} (sp : Shp p n) (sq : Shp q k) (hn : n <= 64) (hk : k <= 64) : p2 g a b = some (g p q) := by
  unfold p2
  rw [ha, hb, Option.bind_some, Option.bind_some, if_pos ⟨sp.shaped hn, sq.shaped hk⟩]
def eL (x : Lot) : D := .tup (x.map D.str)
def pL (x : Lot) : PyData := .tuple (x.map .str)
def NOk (x : Lot) : Prop := ∀ n ∈ x, PyData.strOk n = true
theorem toP_eL (x : Lot) : toP (eL x) = some (pL x) := by
  unfold eL pL
  rw [toP, toPs_map x fun _ _ => by rw [toP]]
  rfl
theorem shp_pL {x : Lot} (h : NOk x) : Shp (pL x) 1 := Shp.tuple fun p hp => by
  obtain ⟨n, hn, rfl⟩ := List.mem_map.mp hp
  exact Shp.str (h n hn)
theorem eqF_pL : EqF pL := EqF.str.tuple
theorem eqD_eL {a b : Lot} (ha : NOk a) (hb : NOk b) : eqD (eL a) (eL b) = some (.bl (decide (a = b))) := by
  unfold eqD
  rw [p2_of (toP_eL a) (toP_eL b) (shp_pL ha) (shp_pL hb) (by decide) (by decide), eqF_pL]
def eLs (xs : List Lot) : D := .lst (xs.map eL)
def pLs (xs : List Lot) : PyData := .list (xs.map pL)
theorem toP_eLs (x : List Lot) : toP (eLs x) = some (pLs x) := by
  unfold eLs pLs
  rw [toP, toPs_map x fun _ _ => toP_eL _]
  rfl
theorem shp_pLs {x : List Lot} (h : ∀ l ∈ x, NOk l) : Shp (pLs x) 2 := Shp.list fun p hp => by
  obtain ⟨n, hn, rfl⟩ := List.mem_map.mp hp
  exact shp_pL (h n hn)
theorem eqF_pLs : EqF pLs := eqF_pL.list
theorem neD_eLs {a b : List Lot} (ha : ∀ l ∈ a, NOk l) (hb : ∀ l ∈ b, NOk l) : neD (eLs a) (eLs b) = some (.bl (!decide (a = b))) := by
  unfold neD
  rw [p2_of (toP_eLs a) (toP_eLs b) (shp_pLs ha) (shp_pLs hb) (by decide) (by decide), eqF_pLs]
theorem toVs_str : ∀ x : Lot, toVs (x.map D.str) = some (x.map V.str)
  | [] => rfl
  | n :: x => by rw [List.map_cons, toVs, toV, Option.bind_some, toVs_str x]; rfl
theorem inV_str (n : Str) (x : Lot) : inV (.str n) (x.map V.str) = decide (n ∈ x) := by
  unfold inV
  induction x with
  | nil => rfl
  | cons y x ih =>
    rw [List.map_cons, List.any_cons, ih]
    show ((y == n) || _) = _
    by_cases h : n = y
    · subst h; simp
    · have h' : ¬ y = n := fun e => h e.symm
      simp [h, h']
theorem inD_eL (n : Str) (x : Lot) : inD (.str n) (eL x) = some (.bl (decide (n ∈ x))) := by
  unfold inD eL inB
  simp only [toV, Option.bind_some, toVs_str, Option.map_some, inV_str]
theorem inD_ls (n : Str) (x : Lot) : inD (.str n) (.lst (x.map D.str)) = some (.bl (decide (n ∈ x))) := by
  unfold inD inB
  simp only [toV, Option.bind_some, toVs_str, Option.map_some, inV_str]
theorem bools_map {α : Type} (p : α -> Bool) : ∀ xs : List α, bools (xs.map fun x => D.bl (p x)) = some (xs.map p)
  | [] => rfl
  | x :: xs => by rw [List.map_cons, bools, bools_map p xs]; rfl
theorem allD_map {α : Type} (p : α -> Bool) (xs : List α) : allD [.lst (xs.map fun x => D.bl (p x))] = some (.bl (xs.all p)) := by
  rw [allD, bools_map, Option.map_some, List.all_map]
  rfl
theorem anyD_map {α : Type} (p : α -> Bool) (xs : List α) : anyD [.lst (xs.map fun x => D.bl (p x))] = some (.bl (xs.any p)) := by
  rw [anyD, bools_map, Option.map_some, List.any_map]
  rfl
theorem lenD_eL (x : Lot) : lenD [eL x] = some (.int (x.length : Int)) := by
  unfold eL
  simp only [lenD, len1, List.length_map, Option.map_some]
theorem pD_of {d : D} {p : PyData} (h : toP d = some p) : pD d = p := by unfold pD; rw [h]; rfl
theorem sortedD_map {α : Type} (g : α -> D) (f : α -> PyData) {xs : List α} (hp : ∀ x ∈ xs, toP (g x) = some (f x)) (hal : ∀ x ∈ xs, ∀ y ∈ xs, PySem.W.alike (f x) (f y) = true)
    (ht : (∀ x ∈ xs, tupNE (f x) = true) \/ ∀ x ∈ xs, notTN (f x) = true) (hd : ∀ x ∈ xs, (f x).depth <= 60) {d : D} (hi : itemsTL d = some (xs.map g)) : sortedD [d] = some (.lst ((xs.mergeSort (PySem.W.dataLe false f)).map g)) := by
  rw [sortedD, hi, Option.bind_some]
  have c : canSort (xs.map g) = true := by
    unfold canSort
    simp only [List.all_map, Bool.and_eq_true, Bool.or_eq_true, List.all_eq_true, Function.comp]
    refine ⟨fun x hx => by rw [hp x hx]; rfl, fun x hx y hy => by rw [pD_of (hp x hx), pD_of (hp y hy)]; exact hal x hx y hy, ?_, fun x hx => by rw [pD_of (hp x hx)]; exact decide_eq_true (hd x hx)⟩
    rcases ht with h | h
    · exact .inl fun x hx => by rw [pD_of (hp x hx)]; exact h x hx
    · exact .inr fun x hx => by rw [pD_of (hp x hx)]; exact h x hx
  rw [if_pos c]
  unfold sortL
  rw [<- List.map_mergeSort (r := PySem.W.dataLe false f) (f := g)]
  intro a ha b hb
  unfold PySem.W.dataLe PySem.W.sortLe
  simp only [pD_of (hp a ha), pD_of (hp b hb)]
theorem sortedD_names {x : Lot} {d : D} (hi : itemsTL d = some (x.map D.str)) : sortedD [d] = some (.lst ((sortS x).map D.str)) :=
  sortedD_map D.str PyData.str (fun _ _ => by rw [toP]) (fun _ _ _ _ => by rw [PySem.W.alike]) (.inr fun _ _ => rfl) (fun _ _ => by rw [PyData.depth]; decide) hi
theorem alike_strs : ∀ a b : Lot, PySem.W.alikeAll (a.map PyData.str) (b.map PyData.str) = true
  | [], _ => by simp [PySem.W.alikeAll]
  | _ :: _, [] => by simp [PySem.W.alikeAll]
  | x :: a, y :: b => by
    rw [List.map_cons, List.map_cons, PySem.W.alikeAll, alike_strs a b, PySem.W.alike]
    rfl
theorem depth_strs : ∀ a : Lot, PyData.depthAll (a.map PyData.str) = 0
  | [] => by simp [PyData.depthAll]
  | x :: a => by rw [List.map_cons, PyData.depthAll, depth_strs a, PyData.depth]; rfl
def eLK (l : Lot) : D := .tup [.int l.length, eL l]
theorem sortedD_lots {xs : List Lot} {d : D} (hi : itemsTL d = some (xs.map eLK)) : sortedD [d] = some (.lst ((sortLots xs).map eLK)) := by
  refine sortedD_map eLK lotKey (fun l _ => ?_) (fun a _ b _ => ?_) (.inl fun _ _ => rfl) (fun l _ => ?_) hi
  · unfold eLK lotKey
    rw [toP, toPs, toPs, toPs, toP, toP_eL]
    rfl
  · unfold lotKey
    simp only [PySem.W.alike, PySem.W.alikeAll, alike_strs, Bool.and_self]
  · unfold lotKey
    simp only [PyData.depth, PyData.depthAll, depth_strs]
    decide
end
end EK
namespace EK
open PySem PySem.Spec PyProof.Rows L2 EKL
section
theorem itemsOf_eL (x : Lot) : itemsOf (eL x) = some (x.map D.str) := rfl
theorem itemsOf_eLs (x : List Lot) : itemsOf (eLs x) = some (x.map eL) := rfl
theorem inside_ok (a b : Lot) : m_is_inside [eL a, eL b] = ret (.bl (inside a b)) := by
  simp! [m_is_inside, b_is_inside, itemsOf_eL]
  rw [lcM_map D.str (fun n => .bl (decide (n ∈ b))) a fun n _ => by simp! [inD_eL]]
  simp! [allD_map]
  rfl
theorem in_order_of {xs : List Lot} {d : D} (hi : itemsOf d = some (xs.map eL)) : m_in_order [d] = ret (eLs (sortLots xs)) := by
  simp! [m_in_order, b_in_order, hi]
  rw [lcM_map eL eLK xs fun l _ => by simp! [lenD_eL]; rfl]
  simp! [sortedD_lots (itemsTL_lst _)]
  rw [lcM_map eLK eL (sortLots xs) fun l _ => by simp! [eLK]]
  simp! []
  rfl
theorem stepL_len (p f : List Lot) : (p.foldl stepL f).length <= f.length + p.length := by
  induction p generalizing f with
  | nil => simp
  | cons x p ih =>
    rw [List.foldl_cons]
    have := ih (stepL f x)
    have : (stepL f x).length <= f.length + 1 := by unfold stepL; split <;> simp
    simp only [List.length_cons]
    omega
theorem least_of_of {xs : List Lot} {d : D} (hi : itemsOf d = some (xs.map eL)) (hl : xs.length < 1000000) : m_least_of [d] = ret (eLs (leastOf xs)) := by
  simp! [m_least_of, b_least_of, in_order_of hi, itemsOf_eLs]
  have hl' : (sortLots xs).length < 1000000 := by unfold sortLots; rw [List.length_mergeSort]; exact hl
  refine forM_bnd eL (fun p G => ∃ u, G = [some (.fz d), some (.own ((p.foldl stepL []).map eL)), u, none]) ⟨none, rfl⟩ ?_ ?_
  · rintro p x r e G ⟨u, rfl⟩
    have hb := stepL_len p []
    have hc : p.length < 1000000 := by rw [e] at hl'; simp at hl'; omega
    refine ⟨_, [some (.fz d), some (.own (((p ++ [x]).foldl stepL []).map eL)), some (.fz (eL x)), none], rfl, ?_, ⟨_, rfl⟩⟩
    simp! []
    rw [lcM_map eL (fun a => .bl (inside a x)) _ fun a _ => by simp! [inside_ok]]
    simp! [anyD_map, List.foldl_append, List.foldl_cons, List.foldl_nil]
    simp only [List.length_nil] at hb
    generalize p.foldl stepL [] = f at hb ⊢
    unfold stepL
    cases f.any fun a => inside a x with
    | true => simp! []
    | false => simp! [List.map_append, if_pos (show (f.map eL).length < PySem.sizeLine by rw [List.length_map]; unfold PySem.sizeLine; omega)]
  · rintro G ⟨u, rfl⟩
    simp! []
    rfl
theorem addD_lst (a b : List D) (h : a.length + b.length <= PySem.sizeLine) : addD (.lst a) (.lst b) = some (.lst (a ++ b)) := by rw [addD, if_pos h]
theorem txts_map {x : Lot} {d : D} (h : itemsTL d = some (x.map D.str)) : txts d = some x := by
  unfold txts
  rw [h, Option.bind_some]
  induction x generalizing d with
  | nil => rfl
  | cons n x ih =>
    rw [List.map_cons, List.mapM_cons, ih (itemsTL_lst _)]
    rfl
end
section
structure OkN (n : Str) : Prop where
  ok : PyData.strOk n = true
  nm : m_is_name [.str n] = ret (.bl true)
  len : n.length <= 6
def seqD (t : Bool) (xs : List D) : D := if t then .tup xs else .lst xs
theorem itemsTL_seqD (t : Bool) (xs : List D) : itemsTL (seqD t xs) = some xs := by cases t <;> rfl
theorem itemsOf_seqD (t : Bool) (xs : List D) : itemsOf (seqD t xs) = some xs := by cases t <;> rfl
theorem lenD_seqD (t : Bool) (xs : List D) : lenD [seqD t xs] = some (.int (xs.length : Int)) := by cases t <;> rfl
theorem inD_seqD (t : Bool) (n : Str) (x : Lot) : inD (.str n) (seqD t (x.map D.str)) = some (.bl (decide (n ∈ x))) := by
  cases t
  · exact inD_ls n x
  · exact inD_eL n x
theorem is_list_ok (t : Bool) (xs : List D) : m_is_list [seqD t xs] = ret (.bl true) := by
  cases t <;> rfl
theorem are_machines_ok (t : Bool) {x : Lot} (h1 : 1 <= x.length) (h5 : x.length <= 5) (hn : ∀ n ∈ x, OkN n) (nd : x.Nodup) : m_are_machines [seqD t (x.map D.str)] = ret (.bl true) := by
  simp! [m_are_machines, b_are_machines, is_list_ok, lenD_seqD, itemsOf_seqD, List.length_map, if_pos (show (1 : Int) <= (x.length : Int) by omega), show (x.length : Int) <= 5 by omega]
  rw [lcM_map D.str (fun _ => .bl true) x fun n hm => by simp! [(hn n hm).nm]]
  simp! [allD_map]
  have : (x.all fun _ => true) = true := by simp
  simp! [this]
  rw [setD, txts_map (itemsTL_seqD t _), Option.bind_some, if_pos (by omega), lenS, dedupK_of nd]
  simp! [lenD_seqD, List.length_map]
theorem ltP_str (a b : Str) : ltP (.str a) (.str b) = some (.bl (sLt a b)) := by
  unfold ltP ordD
  rw [toP, toP, Option.bind_some, Option.bind_some, if_pos (by simp [PySem.W.alike, PyData.depth, isNone])]
  rfl
def isLotB (ms l : Lot) : Bool := l.all (fun n => decide (n ∈ ms)) && (l.zip (l.drop 1)).all fun p => sLt p.1 p.2
theorem zipD_map (a b : Lot) : zipD (a.map D.str) (b.map D.str) = (a.zip b).map fun p => .tup [.str p.1, .str p.2] := by
  unfold zipD
  rw [List.zip_map, List.map_map]
  rfl
theorem is_lot_ok (t : Bool) (ms l : Lot) : m_is_lot [seqD t (ms.map D.str), eL l] = ret (.bl (isLotB ms l)) := by
  simp! [m_is_lot, b_is_lot, itemsOf_eL]
  rw [show ∀ f, isiD [] f (eL l) = (f "tuple").map .bl from fun f => rfl]
  simp! [show List.lookup "tuple" ([("NoneType", false), ("bool", false), ("int", false), ("str", false), ("tuple", true), ("list", false), ("dict", false)] : List (String × Bool)) = some true from rfl]
  rw [lcM_map D.str (fun n => .bl (decide (n ∈ ms))) l fun n _ => by
    simp! [isiD_str, show List.lookup "str" ([("NoneType", false), ("bool", false), ("int", false), ("str", true), ("tuple", false), ("list", false), ("dict", false)] : List (String × Bool)) = some true from rfl, inD_seqD]]
  simp! [allD_map]
  unfold isLotB
  cases l.all fun n => decide (n ∈ ms) with
  | false => simp! []
  | true =>
    simp! []
    rw [show ∀ a b, sliceD a b (eL l) = some (.tup (cutL (l.map D.str) a b)) from fun a b => rfl]
    simp! []
    rw [show zip2 [eL l, .tup ((l.map D.str).drop 1)] = some ((l.zip (l.drop 1)).map fun p => .tup [.str p.1, .str p.2]) by rw [<- List.map_drop, <- zipD_map]; rfl]
    simp! []
    rw [lcM_map (fun p : Str × Str => D.tup [.str p.1, .str p.2]) (fun p => .bl (sLt p.1 p.2)) _ fun p _ => by simp! [ltP_str]]
    simp! [allD_map]
theorem zip_pw {α : Type} {r : α -> α -> Bool} : ∀ {l : List α}, l.Pairwise (fun a b => r a b = true) -> (l.zip (l.drop 1)).all (fun p => r p.1 p.2) = true
  | [], _ => rfl
  | [_], _ => rfl
  | a :: b :: l, h => by
    have := zip_pw (List.pairwise_cons.mp h).2
    simp only [List.drop_succ_cons, List.drop_zero, List.zip_cons_cons, List.all_cons, Bool.and_eq_true] at this ⊢
    exact ⟨(List.pairwise_cons.mp h).1 b (.head _), this⟩
theorem zip_pw' {l : Lot} : (l.zip (l.drop 1)).all (fun p => sLt p.1 p.2) = true -> Asc l := by
  induction l with
  | nil => intro _; exact .nil
  | cons a l ih =>
    intro h
    cases l with
    | nil => exact List.pairwise_singleton _ _
    | cons b l =>
      simp only [List.drop_succ_cons, List.drop_zero, List.zip_cons_cons, List.all_cons, Bool.and_eq_true] at h ih
      have t := ih h.2
      refine List.pairwise_cons.mpr ⟨fun c hc => ?_, t⟩
      rcases List.mem_cons.mp hc with rfl | hc
      · exact h.1
      · exact sLt_trans h.1 ((List.pairwise_cons.mp t).1 c hc)
theorem isLotB_iff {ms l : Lot} : isLotB ms l = true ↔ LotOf ms l := by
  unfold isLotB
  rw [Bool.and_eq_true]
  constructor
  · rintro ⟨h1, h2⟩
    exact ⟨zip_pw' h2, fun n hn => by simpa using List.all_eq_true.mp h1 n hn⟩
  · rintro ⟨h1, h2⟩
    exact ⟨List.all_eq_true.mpr fun n hn => by simpa using h2 n hn, zip_pw h1⟩
theorem are_lots_ok (t u : Bool) {ms : Lot} {xs : List Lot} (hl : xs.length <= 32) (h : ∀ x ∈ xs, LotOf ms x) : m_are_lots [seqD t (ms.map D.str), seqD u (xs.map eL)] = ret (.bl true) := by
  simp! [m_are_lots, b_are_lots, is_list_ok, lenD_seqD, itemsOf_seqD, List.length_map, show (xs.length : Int) <= 32 by omega]
  rw [lcM_map eL (fun _ => .bl true) xs fun l hm => by simp! [is_lot_ok, isLotB_iff.mpr (h l hm)]]
  simp! [allD_map, show (xs.all fun _ => true) = true by simp]
def fam (ms : Lot) (A : List Lot) : D := .obj "Family" ["own_machines", "own_least"] [eL ms, eLs A]
structure Fam (ms : Lot) (A : List Lot) : Prop extends FamL ms A where
  h1 : 1 <= ms.length
  h5 : ms.length <= 5
  nm : ∀ n ∈ ms, OkN n
theorem Fam.l16 {ms : Lot} {A : List Lot} (h : Fam ms A) : A.length <= 16 := h.toFamL.len16 h.h1 h.h5
theorem init_of (t u : Bool) {mx ms : Lot} {xs : List Lot} (hp : mx.Perm ms) (hm : Asc ms) (h1 : 1 <= ms.length) (h5 : ms.length <= 5) (hn : ∀ n ∈ ms, OkN n) (hl : xs.length <= 32) (h : ∀ x ∈ xs, LotOf ms x) :
    m_Family___init__ [seqD t (mx.map D.str), seqD u (xs.map eL)] = ret (([Str.ofString "own_machines", Str.ofString "own_least"] : List Str), [eL ms, eLs (leastOf xs)]) := by
  simp! [m_Family___init__, b_Family___init__, are_machines_ok t (x := mx) (by rw [hp.length_eq]; exact h1) (by rw [hp.length_eq]; exact h5) (fun n q => hn n (hp.mem_iff.mp q)) (hp.nodup_iff.mpr hm.nodup),
    are_lots_ok t u (ms := mx) hl (fun x q => ⟨(h x q).asc, fun n r => hp.mem_iff.mpr ((h x q).sub n r)⟩), sortedD_names (itemsTL_seqD t _), sortS_perm hp hm, least_of_of (itemsOf_seqD u (xs.map eL)) (by omega)]
  rw [if_pos (by decide +kernel)]
  simp! [least_of_of (itemsOf_seqD u (xs.map eL)) (show xs.length < 1000000 by omega)]
  rw [if_pos (by decide +kernel)]
  simp! []
  rfl
theorem fld_m (ms : Lot) (A : List Lot) : fldD "Family" "own_machines" (fam ms A) = some (eL ms) := by
  show ((if Str.ofString "Family" = Str.ofString "Family" then (([Str.ofString "own_machines", Str.ofString "own_least"] : List Str).zip [eL ms, eLs A]).lookup (Str.ofString "own_machines") else none).map unp) = _
  rw [if_pos rfl]
  simp only [List.zip_cons_cons, List.lookup_cons, BEq.rfl]
  rfl
theorem fld_l (ms : Lot) (A : List Lot) : fldD "Family" "own_least" (fam ms A) = some (eLs A) := by
  show ((if Str.ofString "Family" = Str.ofString "Family" then (([Str.ofString "own_machines", Str.ofString "own_least"] : List Str).zip [eL ms, eLs A]).lookup (Str.ofString "own_least") else none).map unp) = _
  rw [if_pos rfl]
  simp only [List.zip_cons_cons, List.lookup_cons, BEq.rfl, show (Str.ofString "own_least" == Str.ofString "own_machines") = false by decide +kernel]
  rfl
theorem isC_fam (ms : Lot) (A : List Lot) : isC "Family" (fam ms A) = true := by
  show decide (Str.ofString "Family" = Str.ofString "Family") = true
  exact decide_eq_true rfl
theorem isi_fam (b : Bool) (f : String -> Option Bool) (ms : Lot) (A : List Lot) : isiD [("Family", b)] f (fam ms A) = some (.bl b) := by
  unfold fam
  rw [isiD_obj]
  simp only [List.lookup_cons, BEq.rfl, Option.map_some]
theorem holds_ok (ms : Lot) (A : List Lot) (x : Lot) : m_holds [fam ms A, eL x] = ret (.bl (hol A x)) := by
  simp! [m_holds, b_holds, fld_l, itemsOf_eLs]
  rw [lcM_map eL (fun a => .bl (inside a x)) A fun a _ => by simp! [inside_ok]]
  simp! [anyD_map]
  rfl
theorem enough_ok {ms : Lot} {A : List Lot} {d : Lot} (hd : LotOf ms d) : m_Family_enough [fam ms A, eL d] = ret (.bl (hol A d)) := by
  simp! [m_Family_enough, b_Family_enough, fld_m]
  rw [show m_is_lot [eL ms, eL d] = ret (.bl (isLotB ms d)) from is_lot_ok true ms d, isLotB_iff.mpr hd]
  simp! [holds_ok]
theorem len_ok (ms : Lot) (A : List Lot) : m_Family___len__ [fam ms A] = ret (.int A.length) := by
  simp! [m_Family___len__, b_Family___len__, fld_l]
  rw [show lenD [eLs A] = some (.int (A.length : Int)) by unfold eLs; rw [lenD_lst, List.length_map]]
  rfl
end
section
def Run {α : Type} (s : DS) (m : M α) (P : α -> DS -> Prop) : Prop := ∃ a s', m s = some (.ok a, s') /\ P a s'
theorem Run.ret {α : Type} {s : DS} {a : α} {P : α -> DS -> Prop} (h : P a s) : Run s (EK.ret a) P := ⟨a, s, rfl, h⟩
theorem Run.bnd {α β : Type} {s : DS} {m : M α} {k : α -> M β} {P : α -> DS -> Prop} {Q : β -> DS -> Prop} (h : Run s m P) (H : ∀ a s', P a s' -> Run s' (k a) Q) : Run s (EK.bnd m k) Q := by
  obtain ⟨a, s1, e, p⟩ := h
  obtain ⟨b, s2, e2, q⟩ := H a s1 p
  refine ⟨b, s2, ?_, q⟩
  unfold EK.bnd
  rw [e]
  exact e2
theorem Run.eq {α β : Type} {s : DS} {a : α} {m : M α} {k : α -> M β} {P : β -> DS -> Prop} (e : m s = some (.ok a, s)) (h : Run s (k a) P) : Run s (EK.bnd m k) P := by
  obtain ⟨b, s2, e2, q⟩ := h
  refine ⟨b, s2, ?_, q⟩
  unfold EK.bnd
  rw [e]
  exact e2
theorem Run.forI {α : Type} {s : DS} (enc : α -> D) (I : Sls -> Prop) {a : SG} {b : SS} : ∀ (xs : List α) (G : Sls), I G ->
    (∀ x ∈ xs, ∀ G, I G -> ∃ G1, a G (enc x) = some G1 /\ Run s (b G1) fun o s' => ∃ G2, o = .next G2 /\ I G2 /\ s' = s) -> Run s (forM a b (xs.map enc) G) fun o s' => ∃ G2, o = .next G2 /\ I G2 /\ s' = s
  | [], G, h, _ => Run.ret ⟨G, rfl, h, rfl⟩
  | x :: xs, G, h, H => by
    obtain ⟨G1, e1, t⟩ := H x (.head _) G h
    rw [List.map_cons, forM, e1, ofO_some, bnd_ret]
    refine Run.bnd t fun o s' ⟨G2, e2, i, e3⟩ => ?_
    subst e2; subst e3
    exact Run.forI enc I xs G2 i fun y hy => H y (.tail _ hy)
theorem mulD_l {i j : Int} (h : -(2 ^ 64) < i /\ i < 2 ^ 64) : mulD (.int i) (.int j) = some (.int (i * j)) := by
  show mulI (.int i) (.int j) = _
  unfold mulI iopC
  simp only
  rw [if_pos (decide_eq_true (.inl h))]
theorem mulD_r {i j : Int} (h : -(2 ^ 64) < j /\ j < 2 ^ 64) : mulD (.int i) (.int j) = some (.int (i * j)) := by
  show mulI (.int i) (.int j) = _
  unfold mulI iopC
  simp only
  rw [if_pos (decide_eq_true (.inr h))]
theorem fdivD_of {i j : Int} (h : 0 < j /\ j < 1073741824) : fdivD (.int i) (.int j) = some (.int (i / j)) := by
  unfold fdivD iopC
  simp only
  rw [if_pos (decide_eq_true h)]
theorem modD_of {i j : Int} (h : 0 < j) : modD (.int i) (.int j) = some (.int (i % j)) := by
  unfold modD iopC
  simp only
  rw [if_pos (decide_eq_true h)]
theorem powD_of {i j : Int} (h : 0 <= j /\ j <= 1000000 /\ i.natAbs < 2 ^ 64) : powD (.int i) (.int j) = some (.int (i ^ j.toNat)) := by
  unfold powD iopC
  simp only
  rw [if_pos (decide_eq_true h)]
end
section
theorem atI_nat {α : Type} {xs : List α} {i : Nat} (h : i < xs.length) : atI xs (i : Int) = some xs[i] := by
  unfold atI ixN
  rw [if_pos (by omega), if_pos (by omega), Option.bind_some, Int.toNat_natCast, List.getElem?_eq_getElem h]
theorem ixD_seqD {t : Bool} {xs : List D} {i : Nat} (h : i < xs.length) : ixD (seqD t xs) (.int (i : Int)) = some xs[i] := by
  cases t <;> exact atI_nat h
theorem ixD_lst {xs : List D} {i : Nat} (h : i < xs.length) : ixD (.lst xs) (.int (i : Int)) = some xs[i] := atI_nat h
def Pl (d : D) : Prop := ∃ p, toP d = some p /\ Shp p 60
theorem Pl.str {n : Str} (h : PyData.strOk n = true) : Pl (.str n) := ⟨.str n, by rw [toP], (Shp.str h).mono (by decide)⟩
def nameB (x : Str) : Bool := decide (1 <= x.length /\ x.length <= 6) && x.cps.toList.all fun c => decide (c ∈ (Str.ofString "abcdefghijklmnopqrstuvwxyz").cps.toList)
theorem is_name_ok {x : Str} (h : nameB x = true) : m_is_name [.str x] = ret (.bl true) := by
  unfold nameB at h
  rw [Bool.and_eq_true, decide_eq_true_eq, List.all_eq_true] at h
  obtain ⟨⟨h1, h6⟩, hc⟩ := h
  have sz : x.cps.size = x.length := rfl
  simp! [m_is_name, b_is_name, isiD_str, show List.lookup "str" ([("NoneType", false), ("bool", false), ("int", false), ("str", true), ("tuple", false), ("list", false), ("dict", false)] : List (String × Bool)) = some true from rfl]
  rw [show lenD [.str x] = some (.int (x.length : Int)) by
    show ((if x.length <= PySem.sizeLine then some x.length else none).map fun (n : Nat) => D.int (n : Int)) = _
    rw [if_pos (by unfold PySem.sizeLine; omega)]
    rfl]
  simp! [if_pos (show (1 : Int) <= (x.length : Int) by omega), show (x.length : Int) <= 6 by omega]
  rw [show itemsOf (.str x) = some (x.cps.toList.map fun c => .str ⟨#[c]⟩) by
    show (if x.cps.size <= 1000000 then some (chars x) else none) = _
    rw [if_pos (by omega)]
    rfl]
  simp! []
  rw [lcM_map (fun c : Nat => D.str ⟨#[c]⟩) (fun _ => .bl true) x.cps.toList fun c hm => by
    simp! []
    rw [show inD (.str ⟨#[c]⟩) (.str (Str.ofString "abcdefghijklmnopqrstuvwxyz")) = some (.bl (decide (c ∈ (Str.ofString "abcdefghijklmnopqrstuvwxyz").cps.toList))) from rfl, hc c hm]
    simp! []]
  simp! [allD_map, show (x.cps.toList.all fun _ => true) = true by simp]
structure Names (x : Lot) : Prop where
  asc : Asc x
  h1 : 1 <= x.length
  h5 : x.length <= 5
  nm : ∀ n ∈ x, OkN n
end
section
theorem Names.fam {ms : Lot} {A : List Lot} (h : Names ms) (f : FamL ms A) : Fam ms A := ⟨f, h.h1, h.h5, h.nm⟩
theorem Names.nok {ms : Lot} (h : Names ms) : NOk ms := fun n q => (h.nm n q).ok
theorem Names.lotok {ms x : Lot} (h : Names ms) (f : LotOf ms x) : NOk x := fun n q => (h.nm n (f.sub n q)).ok
theorem upFrom_map (n : Nat) : upFrom 0 n = (List.range n).map fun (i : Nat) => D.int (i : Int) := by
  unfold upFrom
  congr 1
  funext i
  rw [Int.zero_add]
theorem rng1_nat {n : Nat} (h : n < 1000000) : rng1 [.int (n : Int)] = some ((List.range n).map fun (i : Nat) => D.int (i : Int)) := by
  rw [rng1, if_pos ⟨by omega, by omega⟩, Int.toNat_natCast, upFrom_map]
theorem rng1_int {i : Int} {n : Nat} (e : i = (n : Int)) (h : n < 1000000) : rng1 [.int i] = some ((List.range n).map fun (i : Nat) => D.int (i : Int)) := by rw [e, rng1_nat h]
theorem seq_lst (xs : List D) : D.lst xs = seqD false xs := rfl
end
section
end
end EK
namespace EKL
open PySem PySem.Spec PyProof.Rows L2 EK
section
def b_Family_least : SS := (sRet (gC listD (saC (gFld "Family" "own_least" (gv 0)) sa0)))
def m_Family_least : List D -> M D := runB 1 b_Family_least
def b_is_number : SS := (sRet (vAnd (g1 (isiD [] fun t => List.lookup t ([("NoneType", false), ("bool", true), ("int", true), ("str", false), ("tuple", false), ("list", false), ("dict", false)] : List (String × Bool))) (gv 0)) (vNot (g1 (isiD [] fun t => List.lookup t ([("NoneType", false), ("bool", true), ("int", false), ("str", false), ("tuple", false), ("list", false), ("dict", false)] : List (String × Bool))) (gv 0)))))
def m_is_number : List D -> M D := runB 1 b_is_number
end
end EKL
namespace EK
open PySem PySem.Spec PyProof.Rows L2 EKL
section
theorem least_ok (ms : Lot) (A : List Lot) : m_Family_least [fam ms A] = ret (eLs A) := by
  simp! [m_Family_least, b_Family_least, fld_l]
  rfl
end
end EK
namespace EK
open PySem PySem.Spec PyProof.Rows L2
section
structure Sh (p : PyData) (w n : Nat) : Prop where
  sh : p.showable = true
  len : p.shown.length <= w
  dep : p.depth <= n
  nd : p.hasDict = false
theorem Sh.mono {p : PyData} {w n w' n' : Nat} (h : Sh p w n) (hw : w <= w') (hn : n <= n') : Sh p w' n' := ⟨h.sh, Nat.le_trans h.len hw, Nat.le_trans h.dep hn, h.nd⟩
theorem Sh.none : Sh .none 4 0 := ⟨rfl, by decide, by simp [PyData.depth], by simp [PyData.hasDict]⟩
theorem Sh.bool (b : Bool) : Sh (.bool b) 5 0 := ⟨by cases b <;> rfl, by cases b <;> decide, by simp [PyData.depth], by simp [PyData.hasDict]⟩
theorem Sh.str {x : Str} (h : PyData.strOk x = true) : Sh (.str x) (10 * x.length + 2) 0 := ⟨by simp [PyData.showable], by
  refine StrLaws.reprText_len x fun c hc => ?_
  have : c < 0x110000 := by
    unfold PyData.strOk at h
    rw [Array.all_eq_true'] at h
    simpa using h c (by simpa using hc)
  omega, by simp [PyData.depth], by simp [PyData.hasDict]⟩
theorem Sh.all {w n : Nat} : ∀ {ps : List PyData}, (∀ p ∈ ps, Sh p w n) -> PyData.showableAll ps = true /\ ((PyData.shownAll ps).map (·.length)).sum <= w * ps.length /\ PyData.depthAll ps <= n /\ PyData.hasDictAll ps = false
  | [], _ => ⟨by simp [PyData.showableAll], by simp [PyData.shownAll], by simp [PyData.depthAll], by simp [PyData.hasDictAll]⟩
  | p :: ps, h => by
    obtain ⟨a, b, c, d⟩ := Sh.all fun q hq => h q (.tail _ hq)
    have z := h p (.head _)
    refine ⟨by simp [PyData.showableAll, z.sh, a], ?_, ?_, by simp [PyData.hasDictAll, z.nd, d]⟩
    · have := z.len
      simp only [PyData.shownAll, List.map_cons, List.sum_cons, List.length_cons, Nat.mul_succ]
      omega
    · have := z.dep
      simp only [PyData.depthAll]
      omega
theorem shownAll_len (ps : List PyData) : (PyData.shownAll ps).length = ps.length := by
  induction ps with
  | nil => simp [PyData.shownAll]
  | cons p ps ih => simp [PyData.shownAll, ih]
theorem Sh.list {w n : Nat} {ps : List PyData} (h : ∀ p ∈ ps, Sh p w n) : Sh (.list ps) (w * ps.length + 2 * ps.length + 3) (n + 1) := by
  obtain ⟨a, b, c, d⟩ := Sh.all h
  refine ⟨by simpa [PyData.showable] using a, ?_, by simp only [PyData.depth]; omega, by simpa [PyData.hasDict] using d⟩
  have := listText_len_le (PyData.shownAll ps)
  rw [shownAll_len] at this
  simp only [PyData.shown]
  omega
theorem Sh.tuple {w n : Nat} {ps : List PyData} (h : ∀ p ∈ ps, Sh p w n) : Sh (.tuple ps) (w * ps.length + 2 * ps.length + 3) (n + 1) := by
  obtain ⟨a, b, c, d⟩ := Sh.all h
  refine ⟨by simpa [PyData.showable] using a, ?_, by simp only [PyData.depth]; omega, by simpa [PyData.hasDict] using d⟩
  have := tupleText_len_le (PyData.shownAll ps)
  rw [shownAll_len] at this
  simp only [PyData.shown]
  omega
theorem log2_of {n k : Nat} (h : n < 2 ^ k) (hk : 0 < k) : n.log2 < k := by
  by_cases z : n = 0
  · subst z; simpa using hk
  · exact (Nat.log2_lt z).mpr h
theorem Sh.int {i : Int} {k : Nat} (h : i.natAbs < 10 ^ k) (hk : 0 < k) (h' : k <= 570) : Sh (.int i) (k + 1) 0 := ⟨by
  have : i.natAbs < 2 ^ 1900 := Nat.lt_of_lt_of_le h (Nat.le_trans (Nat.pow_le_pow_right (by decide) h') (by decide +kernel))
  have := log2_of this (by decide)
  simp only [PyData.showable, decide_eq_true_eq]
  omega, by
  have e := int_text_length_le10 hk h
  simp only [PyData.shown]
  show (Str.ofString (toString i)).length <= _
  rw [PySem.ofString_length]; exact e, by simp [PyData.depth], by simp [PyData.hasDict]⟩
theorem reprD_of {d : D} {p : PyData} {w n : Nat} (h : toR d = some p) (s : Sh p w n) (hw : w <= 16000000) (hn : n <= 60) : reprD [d] = some (.str p.shown) := by
  show (toR d).bind showP = _
  rw [h, Option.bind_some, showP, if_pos ⟨s.sh, by have := s.len; rw [sizeLine_eq]; omega, Nat.le_trans s.dep hn, s.nd⟩]
theorem eqS_str (x y : Str) : eqS (.str x) (.str y) = some (.bl (decide (x = y))) := rfl
end
end EK
namespace EKL
open PySem PySem.Spec PyProof.Rows L2 EK
section
def b_Family_machines : SS := (sRet (gFld "Family" "own_machines" (gv 0)))
def m_Family_machines : List D -> M D := runB 1 b_Family_machines
end
end EKL
namespace EK
open PySem PySem.Spec PyProof.Rows L2 EKL
section
theorem neD_nilLs {L : List Lot} (h : ∀ l ∈ L, NOk l) : neD (eLs L) (.lst []) = some (.bl (!decide (L = []))) := neD_eLs (b := []) h fun _ q => (nomatch q)
theorem lst_eLs (L : List Lot) : D.lst (L.map eL) = eLs L := rfl
theorem machines_ok (ms : Lot) (A : List Lot) : m_Family_machines [fam ms A] = ret (eL ms) := by
  simp! [m_Family_machines, b_Family_machines, fld_m]
theorem toR_eq (d : D) : toR d = toP d := rfl
theorem noFld_fam {n : Str} (ms : Lot) (A : List Lot) (h : (([Str.ofString "own_machines", Str.ofString "own_least"] : List Str).contains n) = false) : noFld n (fam ms A) = true := by
  show (!(([Str.ofString "own_machines", Str.ofString "own_least"] : List Str).contains n)) = true
  rw [h]; rfl
theorem nf_enough (ms : Lot) (A : List Lot) : noFld (Str.ofString "enough") (fam ms A) = true := noFld_fam ms A (by decide +kernel)
end
section
theorem ds0_ok (ns : List Int) : OkS (ds0 ns) := by
  refine ⟨fun x hx => ?_, fun x hx => ?_, by show (0 : Int) <= 0; omega, by show (0 : Int) <= 0; omega⟩
  · obtain ⟨g, hg, rfl⟩ := List.mem_map.mp (show x ∈ wideOf ns from hx)
    have := (List.mem_filter.mp hg).2
    simp only [decide_eq_true_eq] at this
    omega
  · obtain ⟨g, hg, rfl⟩ := List.mem_map.mp (show x ∈ cellsOf ns from hx)
    have h1 := Int.emod_nonneg (absI g) (show (2147483629 : Int) ≠ 0 by decide)
    have h2 := Int.emod_lt_of_pos (absI g) (show (0 : Int) < 2147483629 by decide)
    omega
theorem catch_exc (kx : List Str) (c : Str) (ns : List Str) (xs : List D) (h : kx.contains c = true) : catchM kx (EK.throw ⟨c, ns, xs⟩) = EK.ret (.exc c ns xs) := catchM_throw kx ⟨c, ns, xs⟩ h
end
end EK
namespace EKL
open PySem PySem.Spec PyProof.Rows L2 EK
section
end
end EKL
namespace EK
open PySem PySem.Spec PyProof.Rows L2 EKL
section
end
end EK
namespace EKL
open PySem PySem.Spec PyProof.Rows L2 EK
section
end
section
end
section
end
section
end
end EKL
namespace EKB
open PySem PySem.Spec PyProof.Rows L2 EK EKL
section
def b_law_mixed : SS := (sSeq (sPar 1 2 (slF (g2 addD (gDr 0 turnM) (fun _ => ret (.int 1)))) (slF (fun _ => ret (.int 0)))) (sSeq (sDr 0 putTurn (gv 1)) (sSeq (sFor (gIt (gLst (saC (fun _ => ret (.int 2147483647)) (saC (fun _ => ret (.int 2147483629)) (saC (fun _ => ret (.int 2147483587)) (saC (fun _ => ret (.int 2147483579)) sa0)))))) (sgN 3) (sSeq (sAsg (g2 addD (g2 mulD (fun _ => ret (.int 69621)) (gv 1)) (g2 fdivD (gv 3) (fun _ => ret (.int 23)))) (sgN 4)) (sSeq (sForC 0 (sgN 5) (sAsg (g2 modD (gC intD (saC (g2 addD (g2 addD (g2 mulD (gv 4) (fun _ => ret (.int 48271))) (gv 5)) (gv 1)) sa0)) (gv 3)) (sgN 4))) (sAsg (g2 addD (g2 mulD (gv 2) (fun _ => ret (.int 2147483647))) (g2 modD (gC intD (saC (g2 powD (gv 4) (fun _ => ret (.int 5))) sa0)) (gv 3))) (sgN 2))))) (sRet (gv 2)))))
def m_law_mixed : List D -> M D := runB 6 b_law_mixed
def b_law_take : SS := (sSeq (sIf (tB' (g2 eqD (gDr 0 restM) (fun _ => ret (.int 0)))) (sDr 0 putRest (vIf (gDr 0 wideM) (gDr 0 popM) (gCall 1 m_law_mixed (saC (gv 0) sa0)))) sNil) (sSeq (sAsg (g2 modD (gC intD (saC (gDr 0 restM) sa0)) (gv 1)) (sgN 2)) (sSeq (sDr 0 putRest (g2 fdivD (gDr 0 restM) (gv 1))) (sRet (gv 2)))))
def m_law_take : List D -> M D := runB 3 b_law_take
def b_law_pick : SS := (sRet (g2 ixD (gv 1) (gCall 2 m_law_take (saC (gv 0) (saC (gC lenD (saC (gv 1) sa0)) sa0)))))
def m_law_pick : List D -> M D := runB 2 b_law_pick
def b_law_title : SS := (sSeq (sAsg (fun _ => ret (.str "abcdefghijklmnopqrstuvwxyz")) (sgN 1)) (sSeq (sIf (tB' (g2 gtI (gCall 2 m_law_take (saC (gv 0) (saC (fun _ => ret (.int 3)) sa0))) (fun _ => ret (.int 0)))) (sRet (gCall 2 m_law_pick (saC (gv 0) (saC (gLst (saC (fun _ => ret (.str "a")) (saC (fun _ => ret (.str "b")) (saC (fun _ => ret (.str "c")) (saC (fun _ => ret (.str "d")) (saC (fun _ => ret (.str "e")) (saC (fun _ => ret (.str "x")) (saC (fun _ => ret (.str "aa")) (saC (fun _ => ret (.str "once")) (saC (fun _ => ret (.str "lot")) (saC (fun _ => ret (.str "keep")) (saC (fun _ => ret (.str "elect")) (saC (fun _ => ret (.str "barred")) sa0))))))))))))) sa0)))) sNil) (sRet (gJoin (fun _ => ret (.str "")) (gLO (gLc [2] (gItC rng1 (saC (g2 addD (fun _ => ret (.int 1)) (gCall 2 m_law_take (saC (gv 0) (saC (fun _ => ret (.int 6)) sa0)))) sa0)) (sgN 2) yes (gCall 2 m_law_pick (saC (gv 0) (saC (gv 1) sa0)))))))))
def m_law_title : List D -> M D := runB 3 b_law_title
def b_law_labels : SS := (sSeq (sPar 2 3 (slO (gLD sa0)) (slF (fun _ => ret (.str "abcdefghijklmnopqrstuvwxyz")))) (sSeq (sFor (gItC rng1 (saC (gv 1) sa0)) (sgN 4) (sSeq (sAsg (gCall 1 m_law_title (saC (gv 0) sa0)) (sgN 5)) (sSeq (sAsg (g2 addD (gLst (saC (gv 5) sa0)) (gLO (gLc [7] (gIt (gv 3)) (sgN 7) yes (g2 addD (g2 addD (gSlT (gv 5) oNone (oSome (fun _ => ret (.int 4)))) (gv 7)) (fun _ => ret (.str "z")))))) (sgN 6)) (sApp 2 (lendO 2 (g2 ixD (gLO (gLc [8] (gIt (gv 6)) (sgN 8) (tB' (g2 ninD (gv 8) (gv 2))) (gv 8))) (fun _ => ret (.int 0)))))))) (sFrz 2 (sRet (gC sortedD (saC (gv 2) sa0))))))
def m_law_labels : List D -> M D := runB 9 b_law_labels
end
section
end
section
def b_is_usable : SS := (sRet (vAnd (g2 gtI (gCM (lenC "Family" m_Family___len__) (saC (gv 0) sa0)) (fun _ => ret (.int 0))) (vNot (gMeth "Family" "enough" 1 m_Family_enough (gv 0) (saC (EK.gTup sa0) sa0)))))
def m_is_usable : List D -> M D := runB 1 b_is_usable
def b_are_pairs : SS := (sSeq (sIf (bOr (bNot (tB' (gCall 1 m_is_list (saC (gv 1) sa0)))) (bNot (tB' (g3 leI leI (fun _ => ret (.int 1)) (gC lenD (saC (gv 1) sa0)) (gv 2))))) (sRet (fun _ => ret (.bl false))) sNil) (sSeq (sFor (gIt (gv 1)) (sgN 3) (sSeq (sIf (bOr (bNot (tB' (g1 (isiD [] fun t => List.lookup t ([("NoneType", false), ("bool", false), ("int", false), ("str", false), ("tuple", true), ("list", false), ("dict", false)] : List (String × Bool))) (gv 3)))) (tB' (g2 neD (gC lenD (saC (gv 3) sa0)) (fun _ => ret (.int 2))))) (sRet (fun _ => ret (.bl false))) sNil) (sIf (bNot (tB' (gC allD (saC (gLO (gLc [4] (gIt (gv 3)) (sgN 4) yes (vAnd (g1 (isiD [("Family", true)] fun t => List.lookup t ([("NoneType", false), ("bool", false), ("int", false), ("str", false), ("tuple", false), ("list", false), ("dict", false)] : List (String × Bool))) (gv 4)) (vAnd (g2 eqD (gProp "Family" m_Family_machines (gv 4)) (gv 0)) (gCall 1 m_is_usable (saC (gv 4) sa0)))))) sa0)))) (sRet (fun _ => ret (.bl false))) sNil))) (sRet (fun _ => ret (.bl true)))))
def m_are_pairs : List D -> M D := runB 5 b_are_pairs
def b_need_pairs : SS := (sSeq (sIf (bOr (bNot (tB' (gCall 1 m_is_list (saC (gv 0) sa0)))) (bOr (tB' (g2 eqD (gC lenD (saC (gv 0) sa0)) (fun _ => ret (.int 0)))) (bOr (bNot (tB' (g1 (isiD [] fun t => List.lookup t ([("NoneType", false), ("bool", false), ("int", false), ("str", false), ("tuple", true), ("list", false), ("dict", false)] : List (String × Bool))) (g2 ixD (gv 0) (fun _ => ret (.int 0)))))) (tB' (g2 neD (gC lenD (saC (g2 ixD (gv 0) (fun _ => ret (.int 0))) sa0)) (fun _ => ret (.int 2))))))) (sThrow1 "BadStages" "part" (fun _ => ret (.str "families"))) sNil) (sSeq (sIf (bOr (bNot (tB' (g1 (isiD [("Family", true)] fun t => List.lookup t ([("NoneType", false), ("bool", false), ("int", false), ("str", false), ("tuple", false), ("list", false), ("dict", false)] : List (String × Bool))) (g2 ixD (g2 ixD (gv 0) (fun _ => ret (.int 0))) (fun _ => ret (.int 0)))))) (bNot (tB' (gCall 3 m_are_pairs (saC (gProp "Family" m_Family_machines (g2 ixD (g2 ixD (gv 0) (fun _ => ret (.int 0))) (fun _ => ret (.int 0)))) (saC (gv 0) (saC (fun _ => ret (.int 6)) sa0))))))) (sThrow1 "BadStages" "part" (fun _ => ret (.str "families"))) sNil) (sRet (gC tupleD (saC (gv 0) sa0)))))
def m_need_pairs : List D -> M D := runB 1 b_need_pairs
def b_rows_of : SS := (sSeq (sAsg (gLst (saC (EK.gTup (saC (gv 1) sa0)) sa0)) (sgN 4)) (sSeq (sFor (gItC rng1 (saC (g2 subD (gv 3) (fun _ => ret (.int 1))) sa0)) (sgN 5) (sAsg (gLO (gLc2 [6, 7] [7] (gIt (gv 4)) (sgN 6) yes (gItC rng1 (saC (gv 0) sa0)) (sgN 7) yes (EK.gTup (saS (gv 6) (saC (gv 7) sa0))))) (sgN 4))) (sRet (gLO (gLc [6] (gIt (gv 4)) (sgN 6) (tB' (g2 eqD (g2 ixD (gv 6) (g1 negD (fun _ => ret (.int 1)))) (gv 2))) (gv 6))))))
def m_rows_of : List D -> M D := runB 8 b_rows_of
def b_beginnings : SS := (sRet (gLO (gLc [2] (gItC rng1 (saC (gv 1) sa0)) (sgN 2) (bNot (tB' (gC anyD (saC (gLO (gLc [3] (gIt (gv 0)) (sgN 3) yes (g2 ltI (gv 3) (gv 2)))) sa0)))) (gv 2))))
def m_beginnings : List D -> M D := runB 4 b_beginnings
def b_triples : SS := (sSeq (sOwn 2 (gLD sa0)) (sSeq (sFor (gIt (gCall 2 m_beginnings (saC (gv 1) (saC (gC lenD (saC (gv 0) sa0)) sa0)))) (sgN 3) (sFor (gItC rng2 (saC (gv 3) (saC (gC lenD (saC (gv 0) sa0)) sa0))) (sgN 4) (sExt 2 (gLO (gLc [5] (gIt (gProp "Family" m_Family_least (g2 ixD (g2 ixD (gv 0) (gv 4)) (fun _ => ret (.int 0))))) (sgN 5) yes (EK.gTup (saC (gv 3) (saC (gv 4) (saC (gv 5) sa0))))))))) (sFrz 2 (sRet (gv 2)))))
def m_triples : List D -> M D := runB 6 b_triples
def b_between : SS := (sRet (gLst (saC (gv 1) (saS (gLO (gLc [3] (gIt (gv 0)) (sgN 3) (tB' (g3 ltI ltI (gv 1) (gv 3) (gv 2))) (gv 3))) sa0))))
def m_between : List D -> M D := runB 4 b_between
def b_do_miss : SS := (sRet (vNot (gC anyD (saC (gLO (gLc [2] (gIt (gv 0)) (sgN 2) yes (g2 inD (gv 2) (gv 1)))) sa0))))
def m_do_miss : List D -> M D := runB 3 b_do_miss
def b_missing_lot : SS := (sSeq (sAsg (gLO (gLc [3] (gIt (gProp "Family" m_Family_least (gv 0))) (sgN 3) (tB' (gCall 2 m_do_miss (saC (gv 3) (saC (gv 1) sa0)))) (gv 3))) (sgN 2)) (sRet (vIf (tB' (g2 neD (gv 2) (gLst sa0))) (g2 ixD (gv 2) (fun _ => ret (.int 0))) (fun _ => ret .non))))
def m_missing_lot : List D -> M D := runB 4 b_missing_lot
def b_lots_past : SS := (sSeq (sAsg (gv 2) (sgT (sgCons (sgN 3) (sgCons (sgN 4) (sgCons (sgN 5) sgNil))))) (sSeq (sAsg (gDc [7] (gIt (gCall 3 m_between (saC (gv 1) (saC (gv 3) (saC (gv 4) sa0))))) (sgN 7) yes (gv 7) (gCall 2 m_missing_lot (saC (g2 ixD (g2 ixD (gv 0) (gv 7)) (fun _ => ret (.int 1))) (saC (gv 5) sa0)))) (sgN 6)) (sRet (vIf (tB' (g2 inX (fun _ => ret .non) (gLO (gValsO (gv 6))))) (fun _ => ret .non) (gv 6)))))
def m_lots_past : List D -> M D := runB 8 b_lots_past
def b_gap_in : SS := (sSeq (sFor (gIt (gCall 2 m_triples (saC (gv 0) (saC (gv 1) sa0)))) (sgN 2) (sSeq (sAsg (gCall 3 m_lots_past (saC (gv 0) (saC (gv 1) (saC (gv 2) sa0)))) (sgN 3)) (sIf (tB' (g2 notND (gv 3) (fun _ => ret .non))) (sRet (EK.gTup (saS (gv 2) (saC (gv 3) sa0)))) sNil))) (sRet (fun _ => ret .non)))
def m_gap_in : List D -> M D := runB 4 b_gap_in
def b_is_right_row : SS := (sSeq (sAsg (gLO (gLc [3] (gIt (gv 1)) (sgN 3) yes (g2 ixD (gv 0) (gv 3)))) (sgN 2)) (sRet (g2 isND (gCall 2 m_gap_in (saC (gv 2) (saC (g1 tupR (g2 subD (gC lenD (saC (gv 1) sa0)) (fun _ => ret (.int 1)))) sa0))) (fun _ => ret .non))))
def m_is_right_row : List D -> M D := runB 4 b_is_right_row
def b_rows_between : SS := (sSeq (sAsg (gCall 1 m_need_pairs (saC (gv 0) sa0)) (sgN 4)) (sSeq (sFor (gIt (EK.gTup (saC (gv 1) (saC (gv 2) sa0)))) (sgN 5) (sIf (bOr (bNot (tB' (gCall 1 m_is_number (saC (gv 5) sa0)))) (bNot (tB' (g3 leI ltI (fun _ => ret (.int 0)) (gv 5) (gC lenD (saC (gv 4) sa0)))))) (sThrow1 "BadIndex" "index" (gv 5)) sNil)) (sSeq (sIf (bOr (bNot (tB' (gCall 1 m_is_number (saC (gv 3) sa0)))) (bNot (tB' (g3 leI leI (fun _ => ret (.int 1)) (gv 3) (fun _ => ret (.int 4)))))) (sThrow1 "BadCount" "count" (gv 3)) sNil) (sSeq (sFor (gItC rng2 (saC (fun _ => ret (.int 1)) (saC (g2 addD (gv 3) (fun _ => ret (.int 1))) sa0))) (sgN 6) (sSeq (sAsg (gLO (gLc [8] (gIt (gCall 4 m_rows_of (saC (gC lenD (saC (gv 4) sa0)) (saC (gv 1) (saC (gv 2) (saC (gv 6) sa0)))))) (sgN 8) (tB' (gCall 2 m_is_right_row (saC (gv 4) (saC (gv 8) sa0)))) (gv 8))) (sgN 7)) (sIf (tB' (g2 neD (gv 7) (gLst sa0))) (sRet (gv 7)) sNil))) (sRet (gLst sa0))))))
def m_rows_between : List D -> M D := runB 9 b_rows_between
def b_steps_between : SS := (sSeq (sAsg (gCall 1 m_need_pairs (saC (gv 0) sa0)) (sgN 1)) (sSeq (sAsg (gLO (gLc2 [3, 4] [4] (gItC rng1 (saC (gC lenD (saC (gv 1) sa0)) sa0)) (sgN 3) yes (gItC rng1 (saC (gC lenD (saC (gv 1) sa0)) sa0)) (sgN 4) yes (EK.gTup (saC (gv 3) (saC (gv 4) sa0))))) (sgN 2)) (sRet (gLO (gLc [5] (gIt (gv 2)) (sgN 5) (tB' (gCall 2 m_is_right_row (saC (gv 1) (saC (gv 5) sa0)))) (gv 5))))))
def m_steps_between : List D -> M D := runB 6 b_steps_between
def b_need_stages : SS := (sIf (bNot (tB' (g1 (isiD [("Stages", true)] fun t => List.lookup t ([("NoneType", false), ("bool", false), ("int", false), ("str", false), ("tuple", false), ("list", false), ("dict", false)] : List (String × Bool))) (gv 0)))) (sThrow1 "BadStages" "part" (fun _ => ret (.str "stages"))) sNil)
def m_need_stages : List D -> M D := runB 1 b_need_stages
def b_are_indexes : SS := (sSeq (sIf (bOr (bNot (tB' (g1 (isiD [] fun t => List.lookup t ([("NoneType", false), ("bool", false), ("int", false), ("str", false), ("tuple", true), ("list", false), ("dict", false)] : List (String × Bool))) (gv 0)))) (bNot (tB' (gC allD (saC (gLO (gLc [2] (gIt (gv 0)) (sgN 2) yes (vAnd (gCall 1 m_is_number (saC (gv 2) sa0)) (g3 leI ltI (fun _ => ret (.int 0)) (gv 2) (gv 1))))) sa0))))) (sRet (fun _ => ret (.bl false))) sNil) (sRet (gC allD (saC (gLO (gLc [3, 4] (gItC zip2 (saC (gv 0) (saC (gSl (gv 0) (oSome (fun _ => ret (.int 1))) oNone) sa0))) (sgT (sgCons (sgN 3) (sgCons (sgN 4) sgNil))) yes (g2 ltI (gv 3) (gv 4)))) sa0))))
def m_are_indexes : List D -> M D := runB 5 b_are_indexes
def b_Stages___init__ : SS := (sSeq (sIf (bNot (tB' (gCall 1 m_are_machines (saC (gv 1) sa0)))) (sThrow1 "BadStages" "part" (fun _ => ret (.str "machines"))) sNil) (sSeq (sAsg (gC tupleD (saC (gC sortedD (saC (gv 1) sa0)) sa0)) (sgN 4)) (sSeq (sIf (bNot (tB' (gCall 3 m_are_pairs (saC (gv 4) (saC (gv 2) (saC (fun _ => ret (.int 4)) sa0)))))) (sThrow1 "BadStages" "part" (fun _ => ret (.str "families"))) sNil) (sSeq (sIf (bNot (tB' (gCall 2 m_are_indexes (saC (gv 3) (saC (g2 subD (gC lenD (saC (gv 2) sa0)) (fun _ => ret (.int 1))) sa0))))) (sThrow1 "BadStages" "part" (fun _ => ret (.str "settled"))) sNil) (sSeq (sFldC "Stages" "st_names" (gv 4)) (sSeq (sFldC "Stages" "st_pairs" (gC tupleD (saC (gv 2) sa0))) (sFldC "Stages" "st_done" (gv 3))))))))
def m_Stages___init__ : List D -> M (List Str × List D) := runI "Stages" 5 b_Stages___init__
def b_are_right : SS := (sSeq (sExpr (gCall 1 m_need_stages (saC (gv 0) sa0))) (sRet (g2 isND (gCall 2 m_gap_in (saC (gFld "Stages" "st_pairs" (gv 0)) (saC (gFld "Stages" "st_done" (gv 0)) sa0))) (fun _ => ret .non))))
def m_are_right : List D -> M D := runB 1 b_are_right
end
end EKB
namespace EKB.K59
open PySem PySem.Spec PyProof.Rows L2 EK EKL
section
abbrev N_law_mixed : List Str := ["_law_draw", "_law_turn", "_law_found", "_law_prime", "_law_blend", "_law_grain"]
theorem sc_law_mixed : FnScope N_law_mixed ["_law_draw"] (defScope s_law_mixed) := ⟨rfl, rfl, rfl, by decide +kernel, rfl, by decide +kernel, by decide +kernel⟩
abbrev N_law_take : List Str := ["_law_draw", "_law_size", "_law_found"]
theorem sc_law_take : FnScope N_law_take ["_law_draw", "_law_size"] (defScope s_law_take) := ⟨rfl, rfl, rfl, by decide +kernel, rfl, by decide +kernel, by decide +kernel⟩
abbrev N_law_pick : List Str := ["_law_draw", "_law_some"]
theorem sc_law_pick : FnScope N_law_pick ["_law_draw", "_law_some"] (defScope s_law_pick) := ⟨rfl, rfl, rfl, by decide +kernel, rfl, by decide +kernel, by decide +kernel⟩
abbrev N_law_title : List Str := ["_law_draw", "_law_letters", "_law_sign"]
theorem sc_law_title : FnScope N_law_title ["_law_draw"] (defScope s_law_title) := ⟨rfl, rfl, rfl, by decide +kernel, rfl, by decide +kernel, by decide +kernel⟩
abbrev N_law_labels : List Str := ["_law_draw", "_law_many", "_law_found", "_law_letters", "_law_turn", "_law_title_here", "_law_near", "_law_sign", "_law_one"]
theorem sc_law_labels : FnScope N_law_labels ["_law_draw", "_law_many"] (defScope s_law_labels) := ⟨rfl, rfl, rfl, by decide +kernel, rfl, by decide +kernel, by decide +kernel⟩
abbrev N_is_list : List Str := ["thing"]
theorem sc_is_list : FnScope N_is_list ["thing"] (defScope s_is_list) := ⟨rfl, rfl, rfl, by decide +kernel, rfl, by decide +kernel, by decide +kernel⟩
abbrev N_is_name : List Str := ["thing", "sign"]
theorem sc_is_name : FnScope N_is_name ["thing"] (defScope s_is_name) := ⟨rfl, rfl, rfl, by decide +kernel, rfl, by decide +kernel, by decide +kernel⟩
abbrev N_are_machines : List Str := ["thing", "name"]
theorem sc_are_machines : FnScope N_are_machines ["thing"] (defScope s_are_machines) := ⟨rfl, rfl, rfl, by decide +kernel, rfl, by decide +kernel, by decide +kernel⟩
abbrev N_is_lot : List Str := ["machines", "thing", "name", "one", "other"]
theorem sc_is_lot : FnScope N_is_lot ["machines", "thing"] (defScope s_is_lot) := ⟨rfl, rfl, rfl, by decide +kernel, rfl, by decide +kernel, by decide +kernel⟩
abbrev N_are_lots : List Str := ["machines", "thing", "lot"]
theorem sc_are_lots : FnScope N_are_lots ["machines", "thing"] (defScope s_are_lots) := ⟨rfl, rfl, rfl, by decide +kernel, rfl, by decide +kernel, by decide +kernel⟩
abbrev N_in_order : List Str := ["lots", "many", "lot"]
theorem sc_in_order : FnScope N_in_order ["lots"] (defScope s_in_order) := ⟨rfl, rfl, rfl, by decide +kernel, rfl, by decide +kernel, by decide +kernel⟩
abbrev N_is_inside : List Str := ["lot", "other", "name"]
theorem sc_is_inside : FnScope N_is_inside ["lot", "other"] (defScope s_is_inside) := ⟨rfl, rfl, rfl, by decide +kernel, rfl, by decide +kernel, by decide +kernel⟩
abbrev N_least_of : List Str := ["lots", "found", "lot", "less"]
theorem sc_least_of : FnScope N_least_of ["lots"] (defScope s_least_of) := ⟨rfl, rfl, rfl, by decide +kernel, rfl, by decide +kernel, by decide +kernel⟩
abbrev N_Family___init__ : List Str := ["self", "machines", "lots"]
theorem sc_Family___init__ : FnScope N_Family___init__ ["self", "machines", "lots"] (defScope s_Family___init__) := ⟨rfl, rfl, rfl, by decide +kernel, rfl, by decide +kernel, by decide +kernel⟩
abbrev N_law_four : List Str := ["_law_names", "_law_a", "_law_b", "_law_c", "_law_half", "_law_one"]
theorem sc_law_four : FnScope N_law_four ["_law_names"] (defScope s_law_four) := ⟨rfl, rfl, rfl, by decide +kernel, rfl, by decide +kernel, by decide +kernel⟩
def b_law_four : SS := (sSeq (sAsg (gv 0) (sgTL (sgCons (sgN 1) (sgCons (sgN 2) (sgCons (sgN 3) sgNil))))) (sSeq (sPar 4 5 (slF (gMake "Family" 2 m_Family___init__ (saC (gv 0) (saC (gLst (saC (EK.gTup (saC (gv 1) (saC (gv 2) sa0))) (saC (EK.gTup (saC (gv 1) (saC (gv 3) sa0))) (saC (EK.gTup (saC (gv 2) (saC (gv 3) sa0))) sa0)))) sa0)))) (slF (gMake "Family" 2 m_Family___init__ (saC (gv 0) (saC (gLst (saC (EK.gTup (saC (gv 1) sa0)) sa0)) sa0))))) (sRet (gLst (saC (EK.gTup (saC (gv 4) (saC (gv 4) sa0))) (saC (EK.gTup (saC (gv 4) (saC (gv 5) sa0))) (saC (EK.gTup (saC (gv 5) (saC (gv 5) sa0))) (saC (EK.gTup (saC (gMake "Family" 2 m_Family___init__ (saC (gv 0) (saC (gLst (saC (EK.gTup (saC (gv 1) (saC (gv 2) sa0))) (saC (EK.gTup (saC (gv 1) (saC (gv 3) sa0))) sa0))) sa0))) (saC (gv 4) sa0))) sa0))))))))
def m_law_four : List D -> M D := runB 6 b_law_four
abbrev N_Family_machines : List Str := ["self"]
theorem sc_Family_machines : FnScope N_Family_machines ["self"] (defScope s_Family_machines) := ⟨rfl, rfl, rfl, by decide +kernel, rfl, by decide +kernel, by decide +kernel⟩
abbrev N_Family___len__ : List Str := ["self"]
theorem sc_Family___len__ : FnScope N_Family___len__ ["self"] (defScope s_Family___len__) := ⟨rfl, rfl, rfl, by decide +kernel, rfl, by decide +kernel, by decide +kernel⟩
abbrev N_holds : List Str := ["family", "lot", "least"]
theorem sc_holds : FnScope N_holds ["family", "lot"] (defScope s_holds) := ⟨rfl, rfl, rfl, by decide +kernel, rfl, by decide +kernel, by decide +kernel⟩
abbrev N_Family_enough : List Str := ["self", "lot"]
theorem sc_Family_enough : FnScope N_Family_enough ["self", "lot"] (defScope s_Family_enough) := ⟨rfl, rfl, rfl, by decide +kernel, rfl, by decide +kernel, by decide +kernel⟩
abbrev N_is_usable : List Str := ["family"]
theorem sc_is_usable : FnScope N_is_usable ["family"] (defScope s_is_usable) := ⟨rfl, rfl, rfl, by decide +kernel, rfl, by decide +kernel, by decide +kernel⟩
abbrev N_are_pairs : List Str := ["machines", "thing", "most", "pair", "one"]
theorem sc_are_pairs : FnScope N_are_pairs ["machines", "thing", "most"] (defScope s_are_pairs) := ⟨rfl, rfl, rfl, by decide +kernel, rfl, by decide +kernel, by decide +kernel⟩
abbrev N_need_pairs : List Str := ["thing"]
theorem sc_need_pairs : FnScope N_need_pairs ["thing"] (defScope s_need_pairs) := ⟨rfl, rfl, rfl, by decide +kernel, rfl, by decide +kernel, by decide +kernel⟩
abbrev N_is_number : List Str := ["thing"]
theorem sc_is_number : FnScope N_is_number ["thing"] (defScope s_is_number) := ⟨rfl, rfl, rfl, by decide +kernel, rfl, by decide +kernel, by decide +kernel⟩
abbrev N_rows_of : List Str := ["many", "first", "last", "length", "found", "turn", "row", "index"]
theorem sc_rows_of : FnScope N_rows_of ["many", "first", "last", "length"] (defScope s_rows_of) := ⟨rfl, rfl, rfl, by decide +kernel, rfl, by decide +kernel, by decide +kernel⟩
abbrev N_beginnings : List Str := ["settled", "many", "i", "s"]
theorem sc_beginnings : FnScope N_beginnings ["settled", "many"] (defScope s_beginnings) := ⟨rfl, rfl, rfl, by decide +kernel, rfl, by decide +kernel, by decide +kernel⟩
abbrev N_Family_least : List Str := ["self"]
theorem sc_Family_least : FnScope N_Family_least ["self"] (defScope s_Family_least) := ⟨rfl, rfl, rfl, by decide +kernel, rfl, by decide +kernel, by decide +kernel⟩
abbrev N_triples : List Str := ["pairs", "settled", "found", "i", "j", "lot"]
theorem sc_triples : FnScope N_triples ["pairs", "settled"] (defScope s_triples) := ⟨rfl, rfl, rfl, by decide +kernel, rfl, by decide +kernel, by decide +kernel⟩
abbrev N_between : List Str := ["settled", "i", "j", "s"]
theorem sc_between : FnScope N_between ["settled", "i", "j"] (defScope s_between) := ⟨rfl, rfl, rfl, by decide +kernel, rfl, by decide +kernel, by decide +kernel⟩
abbrev N_do_miss : List Str := ["one", "other", "name"]
theorem sc_do_miss : FnScope N_do_miss ["one", "other"] (defScope s_do_miss) := ⟨rfl, rfl, rfl, by decide +kernel, rfl, by decide +kernel, by decide +kernel⟩
abbrev N_missing_lot : List Str := ["family", "lot", "some", "one"]
theorem sc_missing_lot : FnScope N_missing_lot ["family", "lot"] (defScope s_missing_lot) := ⟨rfl, rfl, rfl, by decide +kernel, rfl, by decide +kernel, by decide +kernel⟩
abbrev N_lots_past : List Str := ["pairs", "settled", "triple", "i", "j", "lot", "found", "s"]
theorem sc_lots_past : FnScope N_lots_past ["pairs", "settled", "triple"] (defScope s_lots_past) := ⟨rfl, rfl, rfl, by decide +kernel, rfl, by decide +kernel, by decide +kernel⟩
abbrev N_gap_in : List Str := ["pairs", "settled", "triple", "lots"]
theorem sc_gap_in : FnScope N_gap_in ["pairs", "settled"] (defScope s_gap_in) := ⟨rfl, rfl, rfl, by decide +kernel, rfl, by decide +kernel, by decide +kernel⟩
abbrev N_is_right_row : List Str := ["pairs", "row", "some", "index"]
theorem sc_is_right_row : FnScope N_is_right_row ["pairs", "row"] (defScope s_is_right_row) := ⟨rfl, rfl, rfl, by decide +kernel, rfl, by decide +kernel, by decide +kernel⟩
abbrev N_rows_between : List Str := ["families", "first", "last", "most", "pairs", "index", "length", "found", "row"]
theorem sc_rows_between : FnScope N_rows_between ["families", "first", "last", "most"] (defScope s_rows_between) := ⟨rfl, rfl, rfl, by decide +kernel, rfl, by decide +kernel, by decide +kernel⟩
abbrev N_steps_between : List Str := ["families", "pairs", "every", "a", "b", "pair"]
theorem sc_steps_between : FnScope N_steps_between ["families"] (defScope s_steps_between) := ⟨rfl, rfl, rfl, by decide +kernel, rfl, by decide +kernel, by decide +kernel⟩
abbrev N_law_rows_right : List Str := ["_law_names", "_law_four_here", "_law_due"]
theorem sc_law_rows_right : FnScope N_law_rows_right ["_law_names"] (defScope s_law_rows_right) := ⟨rfl, rfl, rfl, by decide +kernel, rfl, by decide +kernel, by decide +kernel⟩
def b_law_rows_right : SS := (sSeq (sAsg (gCall 1 m_law_four (saC (gv 0) sa0)) (sgN 1)) (sSeq (sIf (bOr (tB' (g2 neD (gCall 4 m_rows_between (saC (gv 1) (saC (fun _ => ret (.int 0)) (saC (fun _ => ret (.int 2)) (saC (fun _ => ret (.int 4)) sa0))))) (gLst (saC (EK.gTup (saC (fun _ => ret (.int 0)) (saC (fun _ => ret (.int 1)) (saC (fun _ => ret (.int 2)) sa0)))) sa0)))) (bOr (tB' (g2 neD (gCall 4 m_rows_between (saC (gv 1) (saC (fun _ => ret (.int 0)) (saC (fun _ => ret (.int 2)) (saC (fun _ => ret (.int 2)) sa0))))) (gLst sa0))) (tB' (g2 neD (gCall 4 m_rows_between (saC (gv 1) (saC (fun _ => ret (.int 1)) (saC (fun _ => ret (.int 1)) (saC (fun _ => ret (.int 1)) sa0))))) (gLst sa0))))) (sRet (fun _ => ret (.bl false))) sNil) (sSeq (sIf (bOr (tB' (g2 neD (gCall 4 m_rows_between (saC (gv 1) (saC (fun _ => ret (.int 2)) (saC (fun _ => ret (.int 0)) (saC (fun _ => ret (.int 3)) sa0))))) (gLst (saC (EK.gTup (saC (fun _ => ret (.int 2)) (saC (fun _ => ret (.int 3)) (saC (fun _ => ret (.int 0)) sa0)))) sa0)))) (tB' (g2 neD (gCall 4 m_rows_between (saC (gv 1) (saC (fun _ => ret (.int 0)) (saC (fun _ => ret (.int 0)) (saC (fun _ => ret (.int 3)) sa0))))) (gLst (saC (EK.gTup (saC (fun _ => ret (.int 0)) sa0)) sa0))))) (sRet (fun _ => ret (.bl false))) sNil) (sSeq (sIf (tB' (g2 neD (gCallK 0 4 4 [3, 2, 1, 0] m_rows_between sa0 (saC (fun _ => ret (.int 4)) (saC (fun _ => ret (.int 3)) (saC (fun _ => ret (.int 0)) (saC (gC tupleD (saC (gv 1) sa0)) sa0))))) (gLst (saC (EK.gTup (saC (fun _ => ret (.int 0)) (saC (fun _ => ret (.int 3)) sa0))) sa0)))) (sRet (fun _ => ret (.bl false))) sNil) (sSeq (sAsg (gLst (saC (EK.gTup (saC (fun _ => ret (.int 0)) (saC (fun _ => ret (.int 0)) sa0))) (saC (EK.gTup (saC (fun _ => ret (.int 0)) (saC (fun _ => ret (.int 1)) sa0))) (saC (EK.gTup (saC (fun _ => ret (.int 0)) (saC (fun _ => ret (.int 3)) sa0))) (saC (EK.gTup (saC (fun _ => ret (.int 2)) (saC (fun _ => ret (.int 2)) sa0))) (saC (EK.gTup (saC (fun _ => ret (.int 2)) (saC (fun _ => ret (.int 3)) sa0))) (saC (EK.gTup (saC (fun _ => ret (.int 3)) (saC (fun _ => ret (.int 0)) sa0))) (saC (EK.gTup (saC (fun _ => ret (.int 3)) (saC (fun _ => ret (.int 1)) sa0))) (saC (EK.gTup (saC (fun _ => ret (.int 3)) (saC (fun _ => ret (.int 3)) sa0))) sa0))))))))) (sgN 2)) (sRet (vAnd (g2 eqD (gCall 1 m_steps_between (saC (gv 1) sa0)) (gv 2)) (g2 eqD (gCallK 0 1 1 [0] m_steps_between sa0 (saC (gSl (gv 1) (oSome (fun _ => ret (.int 1))) (oSome (fun _ => ret (.int 2)))) sa0)) (gLst sa0)))))))))
def m_law_rows_right : List D -> M D := runB 3 b_law_rows_right
abbrev N_need_stages : List Str := ["stages"]
theorem sc_need_stages : FnScope N_need_stages ["stages"] (defScope s_need_stages) := ⟨rfl, rfl, rfl, by decide +kernel, rfl, by decide +kernel, by decide +kernel⟩
abbrev N_gap : List Str := ["stages"]
theorem sc_gap : FnScope N_gap ["stages"] (defScope s_gap) := ⟨rfl, rfl, rfl, by decide +kernel, rfl, by decide +kernel, by decide +kernel⟩
def b_gap : SS := (sSeq (sExpr (gCall 1 m_need_stages (saC (gv 0) sa0))) (sRet (gCall 2 m_gap_in (saC (gFld "Stages" "st_pairs" (gv 0)) (saC (gFld "Stages" "st_done" (gv 0)) sa0)))))
def m_gap : List D -> M D := runB 1 b_gap
abbrev N_are_indexes : List Str := ["thing", "many", "item", "one", "other"]
theorem sc_are_indexes : FnScope N_are_indexes ["thing", "many"] (defScope s_are_indexes) := ⟨rfl, rfl, rfl, by decide +kernel, rfl, by decide +kernel, by decide +kernel⟩
abbrev N_Stages___init__ : List Str := ["self", "machines", "families", "settled", "names"]
theorem sc_Stages___init__ : FnScope N_Stages___init__ ["self", "machines", "families", "settled"] (defScope s_Stages___init__) := ⟨rfl, rfl, rfl, by decide +kernel, rfl, by decide +kernel, by decide +kernel⟩
abbrev N_are_right : List Str := ["stages"]
theorem sc_are_right : FnScope N_are_right ["stages"] (defScope s_are_right) := ⟨rfl, rfl, rfl, by decide +kernel, rfl, by decide +kernel, by decide +kernel⟩
abbrev N_law_stages_right : List Str := ["_law_names", "_law_half", "_law_mixed_here", "_law_one", "_law_done"]
theorem sc_law_stages_right : FnScope N_law_stages_right ["_law_names"] (defScope s_law_stages_right) := ⟨rfl, rfl, rfl, by decide +kernel, rfl, by decide +kernel, by decide +kernel⟩
def b_law_stages_right : SS := (sSeq (sAsg (gSl (gCall 1 m_law_four (saC (gv 0) sa0)) oNone (oSome (fun _ => ret (.int 3)))) (sgTL (sgCons (sgN 1) (sgCons (sgN 2) (sgCons (sgN 3) sgNil))))) (sSeq (sIf (tB' (g2 neT (gCall 1 m_gap (saC (gMake "Stages" 3 m_Stages___init__ (saC (gv 0) (saC (gLst (saC (gv 1) (saC (gv 3) sa0))) (saC (EK.gTup sa0) sa0)))) sa0)) (EK.gTup (saC (fun _ => ret (.int 0)) (saC (fun _ => ret (.int 1)) (saC (EK.gTup (saC (g2 ixD (gv 0) (fun _ => ret (.int 0))) sa0)) (saC (gDisp [((fun _ => ret (.int 0)), (EK.gTup (saC (g2 ixD (gv 0) (fun _ => ret (.int 1))) (saC (g2 ixD (gv 0) (fun _ => ret (.int 2))) sa0))))]) sa0))))))) (sRet (fun _ => ret (.bl false))) sNil) (sSeq (sIf (tB' (g2 neD (gLO (gLc [4] (gIt (gLst (saC (EK.gTup sa0) (saC (EK.gTup (saC (fun _ => ret (.int 1)) sa0)) (saC (EK.gTup (saC (fun _ => ret (.int 0)) sa0)) (saC (EK.gTup (saC (fun _ => ret (.int 0)) (saC (fun _ => ret (.int 1)) sa0))) sa0)))))) (sgN 4) yes (gCall 1 m_are_right (saC (gMake "Stages" 3 m_Stages___init__ (saC (gv 0) (saC (gLst (saC (gv 1) (saC (gv 2) (saC (gv 3) sa0)))) (saC (gv 4) sa0)))) sa0)))) (gLst (saC (fun _ => ret (.bl false)) (saC (fun _ => ret (.bl false)) (saC (fun _ => ret (.bl false)) (saC (fun _ => ret (.bl true)) sa0))))))) (sRet (fun _ => ret (.bl false))) sNil) (sSeq (sIf (tB' (g2 neT (gCall 1 m_gap (saC (gMake "Stages" 3 m_Stages___init__ (saC (gv 0) (saC (gLst (saC (gv 2) sa0)) (saC (EK.gTup sa0) sa0)))) sa0)) (EK.gTup (saC (fun _ => ret (.int 0)) (saC (fun _ => ret (.int 0)) (saC (EK.gTup (saC (g2 ixD (gv 0) (fun _ => ret (.int 1))) (saC (g2 ixD (gv 0) (fun _ => ret (.int 2))) sa0))) (saC (gDisp [((fun _ => ret (.int 0)), (EK.gTup (saC (g2 ixD (gv 0) (fun _ => ret (.int 0))) sa0)))]) sa0))))))) (sRet (fun _ => ret (.bl false))) sNil) (sRet (vAnd (gCall 1 m_are_right (saC (gMake "Stages" 3 m_Stages___init__ (saC (gv 0) (saC (gLst (saC (gv 1) sa0)) (saC (EK.gTup sa0) sa0)))) sa0)) (gCall 1 m_are_right (saC (gMake "Stages" 3 m_Stages___init__ (saC (gv 0) (saC (gLst (saC (gv 1) (saC (gv 1) (saC (gv 1) (saC (gv 1) sa0))))) (saC (EK.gTup (saC (fun _ => ret (.int 1)) sa0)) sa0)))) sa0))))))))
def m_law_stages_right : List D -> M D := runB 5 b_law_stages_right
abbrev N_law_said : List Str := ["_law_task", "_law_error"]
theorem sc_law_said : FnScope N_law_said ["_law_task"] (defScope s_law_said) := ⟨rfl, rfl, rfl, by decide +kernel, rfl, by decide +kernel, by decide +kernel⟩
def b_law_said : SS := (sSeq (sIf (tB' (g1 (isiXD [("BadCount", false), ("BadFamily", false), ("BadIndex", false), ("BadLot", false), ("BadStages", true), ("OtherMachines", false)] [] fun t => List.lookup t ([("NoneType", false), ("bool", false), ("int", false), ("str", false), ("tuple", false), ("list", false), ("dict", false)] : List (String × Bool))) (gv 1))) (sRet (EK.gTup (saC (fun _ => ret (.str "stages")) (saC (g1 (fldXD ["BadFamily", "BadStages"] "part") (gv 1)) sa0)))) sNil) (sSeq (sIf (tB' (g1 (isiXD [("BadCount", false), ("BadFamily", false), ("BadIndex", true), ("BadLot", false), ("BadStages", false), ("OtherMachines", false)] [] fun t => List.lookup t ([("NoneType", false), ("bool", false), ("int", false), ("str", false), ("tuple", false), ("list", false), ("dict", false)] : List (String × Bool))) (gv 1))) (sRet (EK.gTup (saC (fun _ => ret (.str "index")) (saC (g1 (fldXD ["BadIndex"] "index") (gv 1)) sa0)))) sNil) (sSeq (sIf (tB' (g1 (isiXD [("BadCount", true), ("BadFamily", false), ("BadIndex", false), ("BadLot", false), ("BadStages", false), ("OtherMachines", false)] [] fun t => List.lookup t ([("NoneType", false), ("bool", false), ("int", false), ("str", false), ("tuple", false), ("list", false), ("dict", false)] : List (String × Bool))) (gv 1))) (sRet (EK.gTup (saC (fun _ => ret (.str "count")) (saC (g1 (fldXD ["BadCount"] "count") (gv 1)) sa0)))) sNil) (sRet (vIf (tB' (g2 isND (gv 1) (fun _ => ret .non))) (EK.gTup (saC (fun _ => ret (.str "none")) (saC (fun _ => ret .non) sa0))) (EK.gTup (saC (fun _ => ret (.str "else")) (saC (fun _ => ret .non) sa0))))))))
theorem hs_law_said : ∃ q1 p1 p2 p3 q2, defBody s_law_said = .Assign [.Name "_law_error" q1] (.Call (.Name "_law_caught" p1) [.Name "_law_task" p2] [] p3) q2 :: (defBody s_law_said).tail := ⟨_, _, _, _, _, rfl⟩
abbrev N_law_refused_right : List Str := ["_law_draw", "_law_names", "_law_four_here", "_law_odd", "_law_bad", "_law_far", "_law_other", "_law_works", "_law_dues", "_law_work"]
theorem sc_law_refused_right : FnScope N_law_refused_right ["_law_draw", "_law_names"] (defScope s_law_refused_right) := ⟨rfl, rfl, rfl, by decide +kernel, rfl, by decide +kernel, by decide +kernel⟩
def b_law_refused_right : SS := (sSeq (sAsg (gCall 1 m_law_four (saC (gv 1) sa0)) (sgN 2)) (sSeq (sAsg (gCall 2 m_law_pick (saC (gv 0) (saC (gLst (saC (fun _ => ret .non) (saC (gLst sa0) (saC (g2 mulD (gv 2) (fun _ => ret (.int 2))) (saC (gLst (saC (g2 ixD (gv 2) (fun _ => ret (.int 0))) (saC (fun _ => ret .non) sa0))) (saC (gLst (saC (gC listD (saC (g2 ixD (gv 2) (fun _ => ret (.int 0))) sa0)) sa0)) (saC (fun _ => ret (.int 5)) (saC (fun _ => ret (.str "rows")) (saC (gLst (saC (EK.gTup (saC (g2 ixD (g2 ixD (gv 2) (fun _ => ret (.int 0))) (fun _ => ret (.int 0))) sa0)) sa0)) (saC (fun _ => ret (.dct [] [])) (saC (gLst (saC (EK.gTup sa0) sa0)) sa0))))))))))) sa0))) (sgN 3)) (sSeq (sAsg (EK.gTup (saC (gCall 2 m_law_pick (saC (gv 0) (saC (gLst (saC (g1 negD (fun _ => ret (.int 1))) (saC (fun _ => ret (.int 4)) (saC (fun _ => ret (.bl true)) (saC (fun _ => ret .non) (saC (fun _ => ret (.str "0")) (saC (gLst (saC (fun _ => ret (.int 0)) sa0)) sa0))))))) sa0))) (saC (gCall 2 m_law_pick (saC (gv 0) (saC (gLst (saC (fun _ => ret (.int 0)) (saC (fun _ => ret (.int 5)) (saC (fun _ => ret (.bl true)) (saC (fun _ => ret .non) (saC (fun _ => ret (.str "1")) sa0)))))) sa0))) sa0))) (sgT (sgCons (sgN 4) (sgCons (sgN 5) sgNil)))) (sSeq (sAsg (g2 addD (gSl (gv 2) oNone (oSome (fun _ => ret (.int 2)))) (gLst (saC (EK.gTup (saC (gMake "Family" 2 m_Family___init__ (saC (gSl (gv 1) oNone (oSome (fun _ => ret (.int 2)))) (saC (gLst (saC (EK.gTup (saC (g2 ixD (gv 1) (fun _ => ret (.int 0))) sa0)) sa0)) sa0))) (saC (gMake "Family" 2 m_Family___init__ (saC (gSl (gv 1) oNone (oSome (fun _ => ret (.int 2)))) (saC (gLst (saC (EK.gTup (saC (g2 ixD (gv 1) (fun _ => ret (.int 0))) sa0)) sa0)) sa0))) sa0))) sa0))) (sgN 6)) (sLamN 7 (lamQ "_law_refused_right") (fun n0 => (sLamA 7 (lamQ "_law_refused_right") (fun n1 => (sLamA 7 (lamQ "_law_refused_right") (fun n2 => (sLamA 7 (lamQ "_law_refused_right") (fun n3 => (sLamA 7 (lamQ "_law_refused_right") (fun n4 => (sLamA 7 (lamQ "_law_refused_right") (fun n5 => (sSeq (sAsg (gLst (saC (EK.gTup (saC (fun _ => ret (.str "stages")) (saC (fun _ => ret (.str "families")) sa0))) (saC (EK.gTup (saC (fun _ => ret (.str "index")) (saC (gv 4) sa0))) (saC (EK.gTup (saC (fun _ => ret (.str "index")) (saC (gv 4) sa0))) (saC (EK.gTup (saC (fun _ => ret (.str "count")) (saC (gv 5) sa0))) (saC (EK.gTup (saC (fun _ => ret (.str "stages")) (saC (fun _ => ret (.str "families")) sa0))) (saC (EK.gTup (saC (fun _ => ret (.str "stages")) (saC (fun _ => ret (.str "families")) sa0))) sa0))))))) (sgN 8)) (sRet (g2 eqS (gC reprD (saC (gLO (gLc [9] (gItO 7) (sgN 9) yes (jobF [9] 9 [(n0, (gCall 4 m_rows_between (saC (gv 3) (saC (gv 4) (saC (gv 4) (saC (gv 5) sa0)))))), (n1, (gCall 4 m_rows_between (saC (gv 2) (saC (gv 4) (saC (fun _ => ret .non) (saC (gv 5) sa0)))))), (n2, (gCall 4 m_rows_between (saC (gv 2) (saC (fun _ => ret (.int 0)) (saC (gv 4) (saC (gv 5) sa0)))))), (n3, (gCall 4 m_rows_between (saC (gv 2) (saC (fun _ => ret (.int 0)) (saC (fun _ => ret (.int 1)) (saC (gv 5) sa0)))))), (n4, (gCall 1 m_steps_between (saC (gv 3) sa0))), (n5, (gCall 1 m_steps_between (saC (gv 6) sa0)))] fun f => gWord ["BadCount", "BadFamily", "BadIndex", "BadLot", "BadStages", "OtherMachines"] f 2 b_law_said))) sa0)) (gC reprD (saC (gv 8) sa0)))))))))))))))))))))
def m_law_refused_right : List D -> M D := runB 10 b_law_refused_right
abbrev N_law : List Str := ["_law_script", "_law_draw", "_law_turn", "_law_names"]
theorem sc_law : FnScope N_law ["_law_script"] (defScope s_law) := ⟨rfl, rfl, rfl, by decide +kernel, rfl, by decide +kernel, by decide +kernel⟩
def b_law : SS := (sSeq (sFor (gItC rng1 (saC (g2 addD (fun _ => ret (.int 2)) (gC min2D (saC (gC lenD (saC (gv 0) sa0)) (saC (fun _ => ret (.int 8)) sa0)))) sa0)) (sgN 2) (sSeq (sAsg (gCall 2 m_law_labels (saC (gv 1) (saC (fun _ => ret (.int 3)) sa0))) (sgN 3)) (sIf (bOr (bNot (tB' (gCall 1 m_law_rows_right (saC (gv 3) sa0)))) (bOr (bNot (tB' (gCall 1 m_law_stages_right (saC (gv 3) sa0)))) (bNot (tB' (gCall 2 m_law_refused_right (saC (gv 1) (saC (gv 3) sa0))))))) (sRet (fun _ => ret (.bl false))) sNil))) (sRet (fun _ => ret (.bl true))))
def m_law : List Int -> M D := runL 4 b_law
structure Tx (hp : Heap) (K : PySem.W.Frag) (mg : Str -> Option Value) : Prop where
  c : SaysW fa fn fx gt tf xd hp K
  h : ∃ h : Heap, K.In h /\ h.Ns mainGlobals mg
section
variable {w : World} {hp : Heap} {K : PySem.W.Frag} {mg : Str -> Option Value} {base : Heap} (T : Tx hp K mg)
include T
theorem n_abs : mg "abs" = none := by obtain ⟨h, X, G⟩ := T.h; exact He.free_ok X G (T.c.z.y.d.fact 0 (f := .free "abs") rfl)
theorem n_int : mg "int" = none := by obtain ⟨h, X, G⟩ := T.h; exact He.free_ok X G (T.c.z.y.d.fact 1 (f := .free "int") rfl)
theorem g__law_begun : mg "_law_begun" = some (.ref (He.ga K "_law_begun")) := by obtain ⟨h, X, G⟩ := T.h; exact He.glo_ok X G (T.c.z.y.d.fact 2 (f := .glo "_law_begun") rfl)
theorem n_len : mg "len" = none := by obtain ⟨h, X, G⟩ := T.h; exact He.free_ok X G (T.c.z.y.d.fact 3 (f := .free "len") rfl)
theorem n_min : mg "min" = none := by obtain ⟨h, X, G⟩ := T.h; exact He.free_ok X G (T.c.z.y.d.fact 4 (f := .free "min") rfl)
theorem n_range : mg "range" = none := by obtain ⟨h, X, G⟩ := T.h; exact He.free_ok X G (T.c.z.y.d.fact 5 (f := .free "range") rfl)
theorem g__law_mixed : mg "_law_mixed" = some (.ref (He.ga K "_law_mixed")) := by obtain ⟨h, X, G⟩ := T.h; exact He.glo_ok X G (T.c.z.y.d.fact 6 (f := .glo "_law_mixed") rfl)
theorem g__law_take : mg "_law_take" = some (.ref (He.ga K "_law_take")) := by obtain ⟨h, X, G⟩ := T.h; exact He.glo_ok X G (T.c.z.y.d.fact 7 (f := .glo "_law_take") rfl)
theorem g__law_pick : mg "_law_pick" = some (.ref (He.ga K "_law_pick")) := by obtain ⟨h, X, G⟩ := T.h; exact He.glo_ok X G (T.c.z.y.d.fact 8 (f := .glo "_law_pick") rfl)
theorem g__law_title : mg "_law_title" = some (.ref (He.ga K "_law_title")) := by obtain ⟨h, X, G⟩ := T.h; exact He.glo_ok X G (T.c.z.y.d.fact 9 (f := .glo "_law_title") rfl)
theorem n_sorted : mg "sorted" = none := by obtain ⟨h, X, G⟩ := T.h; exact He.free_ok X G (T.c.z.y.d.fact 10 (f := .free "sorted") rfl)
theorem g__law_labels : mg "_law_labels" = some (.ref (He.ga K "_law_labels")) := by obtain ⟨h, X, G⟩ := T.h; exact He.glo_ok X G (T.c.z.y.d.fact 11 (f := .glo "_law_labels") rfl)
theorem n_list : mg "list" = none := by obtain ⟨h, X, G⟩ := T.h; exact He.free_ok X G (T.c.z.y.d.fact 12 (f := .free "list") rfl)
theorem n_tuple : mg "tuple" = none := by obtain ⟨h, X, G⟩ := T.h; exact He.free_ok X G (T.c.z.y.d.fact 13 (f := .free "tuple") rfl)
theorem n_isinstance : mg "isinstance" = none := by obtain ⟨h, X, G⟩ := T.h; exact He.free_ok X G (T.c.z.y.d.fact 14 (f := .free "isinstance") rfl)
theorem g_is_list : mg "is_list" = some (.ref (He.ga K "is_list")) := by obtain ⟨h, X, G⟩ := T.h; exact He.glo_ok X G (T.c.z.y.d.fact 15 (f := .glo "is_list") rfl)
theorem c_MOST_MACHINES : ∃ t, mg "MOST_MACHINES" = some (.int 5 t) := by obtain ⟨h, X, G⟩ := T.h; exact He.int_ok X G (T.c.z.y.d.fact 16 (f := .int "MOST_MACHINES" 5) rfl)
theorem n_str : mg "str" = none := by obtain ⟨h, X, G⟩ := T.h; exact He.free_ok X G (T.c.z.y.d.fact 17 (f := .free "str") rfl)
theorem c_LETTERS : ∃ t, mg "LETTERS" = some (.str "abcdefghijklmnopqrstuvwxyz" t) := by obtain ⟨h, X, G⟩ := T.h; exact He.str_ok X G (T.c.z.y.d.fact 18 (f := .str "LETTERS" "abcdefghijklmnopqrstuvwxyz") rfl)
theorem n_all : mg "all" = none := by obtain ⟨h, X, G⟩ := T.h; exact He.free_ok X G (T.c.z.y.d.fact 19 (f := .free "all") rfl)
theorem g_is_name : mg "is_name" = some (.ref (He.ga K "is_name")) := by obtain ⟨h, X, G⟩ := T.h; exact He.glo_ok X G (T.c.z.y.d.fact 20 (f := .glo "is_name") rfl)
theorem n_set : mg "set" = none := by obtain ⟨h, X, G⟩ := T.h; exact He.free_ok X G (T.c.z.y.d.fact 21 (f := .free "set") rfl)
theorem g_are_machines : mg "are_machines" = some (.ref (He.ga K "are_machines")) := by obtain ⟨h, X, G⟩ := T.h; exact He.glo_ok X G (T.c.z.y.d.fact 22 (f := .glo "are_machines") rfl)
theorem g_BadFamily : mg "BadFamily" = some (.ref (He.ga K "BadFamily")) := by obtain ⟨h, X, G⟩ := T.h; exact He.glo_ok X G (T.c.z.y.d.fact 23 (f := .glo "BadFamily") rfl)
theorem c_MOST_LOTS : ∃ t, mg "MOST_LOTS" = some (.int 32 t) := by obtain ⟨h, X, G⟩ := T.h; exact He.int_ok X G (T.c.z.y.d.fact 24 (f := .int "MOST_LOTS" 32) rfl)
theorem n_zip : mg "zip" = none := by obtain ⟨h, X, G⟩ := T.h; exact He.free_ok X G (T.c.z.y.d.fact 25 (f := .free "zip") rfl)
theorem g_is_lot : mg "is_lot" = some (.ref (He.ga K "is_lot")) := by obtain ⟨h, X, G⟩ := T.h; exact He.glo_ok X G (T.c.z.y.d.fact 26 (f := .glo "is_lot") rfl)
theorem g_are_lots : mg "are_lots" = some (.ref (He.ga K "are_lots")) := by obtain ⟨h, X, G⟩ := T.h; exact He.glo_ok X G (T.c.z.y.d.fact 27 (f := .glo "are_lots") rfl)
theorem g_Family : mg "Family" = some (.ref (He.ga K "Family")) := by obtain ⟨h, X, G⟩ := T.h; exact He.glo_ok X G (T.c.z.y.d.fact 28 (f := .glo "Family") rfl)
theorem cl_Family : Cls K (He.ga K "Family") := He.cls_ok (T.c.z.y.d.fact 29 (f := .cls "Family") rfl)
theorem g_in_order : mg "in_order" = some (.ref (He.ga K "in_order")) := by obtain ⟨h, X, G⟩ := T.h; exact He.glo_ok X G (T.c.z.y.d.fact 31 (f := .glo "in_order") rfl)
theorem g_is_inside : mg "is_inside" = some (.ref (He.ga K "is_inside")) := by obtain ⟨h, X, G⟩ := T.h; exact He.glo_ok X G (T.c.z.y.d.fact 32 (f := .glo "is_inside") rfl)
theorem n_any : mg "any" = none := by obtain ⟨h, X, G⟩ := T.h; exact He.free_ok X G (T.c.z.y.d.fact 33 (f := .free "any") rfl)
theorem g_least_of : mg "least_of" = some (.ref (He.ga K "least_of")) := by obtain ⟨h, X, G⟩ := T.h; exact He.glo_ok X G (T.c.z.y.d.fact 34 (f := .glo "least_of") rfl)
theorem mk_Family : (He.Fa.mkr "Family").ok K = true := T.c.z.y.d.fact 36 (f := .mkr "Family") rfl
theorem g__law_four : mg "_law_four" = some (.ref (He.ga K "_law_four")) := by obtain ⟨h, X, G⟩ := T.h; exact He.glo_ok X G (T.c.z.y.d.fact 37 (f := .glo "_law_four") rfl)
theorem g_BadStages : mg "BadStages" = some (.ref (He.ga K "BadStages")) := by obtain ⟨h, X, G⟩ := T.h; exact He.glo_ok X G (T.c.z.y.d.fact 38 (f := .glo "BadStages") rfl)
theorem g_BadLot : mg "BadLot" = some (.ref (He.ga K "BadLot")) := by obtain ⟨h, X, G⟩ := T.h; exact He.glo_ok X G (T.c.z.y.d.fact 39 (f := .glo "BadLot") rfl)
theorem g_holds : mg "holds" = some (.ref (He.ga K "holds")) := by obtain ⟨h, X, G⟩ := T.h; exact He.glo_ok X G (T.c.z.y.d.fact 41 (f := .glo "holds") rfl)
theorem mt_Family_enough : (He.Fa.meth "Family" "enough").ok K = true := T.c.z.y.d.fact 42 (f := .meth "Family" "enough") rfl
theorem g_is_usable : mg "is_usable" = some (.ref (He.ga K "is_usable")) := by obtain ⟨h, X, G⟩ := T.h; exact He.glo_ok X G (T.c.z.y.d.fact 43 (f := .glo "is_usable") rfl)
theorem g_are_pairs : mg "are_pairs" = some (.ref (He.ga K "are_pairs")) := by obtain ⟨h, X, G⟩ := T.h; exact He.glo_ok X G (T.c.z.y.d.fact 44 (f := .glo "are_pairs") rfl)
theorem c_MOST_FAMILIES : ∃ t, mg "MOST_FAMILIES" = some (.int 6 t) := by obtain ⟨h, X, G⟩ := T.h; exact He.int_ok X G (T.c.z.y.d.fact 45 (f := .int "MOST_FAMILIES" 6) rfl)
theorem g_need_pairs : mg "need_pairs" = some (.ref (He.ga K "need_pairs")) := by obtain ⟨h, X, G⟩ := T.h; exact He.glo_ok X G (T.c.z.y.d.fact 46 (f := .glo "need_pairs") rfl)
theorem n_bool : mg "bool" = none := by obtain ⟨h, X, G⟩ := T.h; exact He.free_ok X G (T.c.z.y.d.fact 47 (f := .free "bool") rfl)
theorem g_is_number : mg "is_number" = some (.ref (He.ga K "is_number")) := by obtain ⟨h, X, G⟩ := T.h; exact He.glo_ok X G (T.c.z.y.d.fact 48 (f := .glo "is_number") rfl)
theorem g_BadIndex : mg "BadIndex" = some (.ref (He.ga K "BadIndex")) := by obtain ⟨h, X, G⟩ := T.h; exact He.glo_ok X G (T.c.z.y.d.fact 49 (f := .glo "BadIndex") rfl)
theorem c_MOST_STAGES : ∃ t, mg "MOST_STAGES" = some (.int 4 t) := by obtain ⟨h, X, G⟩ := T.h; exact He.int_ok X G (T.c.z.y.d.fact 50 (f := .int "MOST_STAGES" 4) rfl)
theorem g_BadCount : mg "BadCount" = some (.ref (He.ga K "BadCount")) := by obtain ⟨h, X, G⟩ := T.h; exact He.glo_ok X G (T.c.z.y.d.fact 51 (f := .glo "BadCount") rfl)
theorem g_rows_of : mg "rows_of" = some (.ref (He.ga K "rows_of")) := by obtain ⟨h, X, G⟩ := T.h; exact He.glo_ok X G (T.c.z.y.d.fact 52 (f := .glo "rows_of") rfl)
theorem g_beginnings : mg "beginnings" = some (.ref (He.ga K "beginnings")) := by obtain ⟨h, X, G⟩ := T.h; exact He.glo_ok X G (T.c.z.y.d.fact 53 (f := .glo "beginnings") rfl)
theorem g_triples : mg "triples" = some (.ref (He.ga K "triples")) := by obtain ⟨h, X, G⟩ := T.h; exact He.glo_ok X G (T.c.z.y.d.fact 54 (f := .glo "triples") rfl)
theorem g_between : mg "between" = some (.ref (He.ga K "between")) := by obtain ⟨h, X, G⟩ := T.h; exact He.glo_ok X G (T.c.z.y.d.fact 55 (f := .glo "between") rfl)
theorem g_do_miss : mg "do_miss" = some (.ref (He.ga K "do_miss")) := by obtain ⟨h, X, G⟩ := T.h; exact He.glo_ok X G (T.c.z.y.d.fact 56 (f := .glo "do_miss") rfl)
theorem g_missing_lot : mg "missing_lot" = some (.ref (He.ga K "missing_lot")) := by obtain ⟨h, X, G⟩ := T.h; exact He.glo_ok X G (T.c.z.y.d.fact 57 (f := .glo "missing_lot") rfl)
theorem g_lots_past : mg "lots_past" = some (.ref (He.ga K "lots_past")) := by obtain ⟨h, X, G⟩ := T.h; exact He.glo_ok X G (T.c.z.y.d.fact 58 (f := .glo "lots_past") rfl)
theorem g_gap_in : mg "gap_in" = some (.ref (He.ga K "gap_in")) := by obtain ⟨h, X, G⟩ := T.h; exact He.glo_ok X G (T.c.z.y.d.fact 59 (f := .glo "gap_in") rfl)
theorem g_is_right_row : mg "is_right_row" = some (.ref (He.ga K "is_right_row")) := by obtain ⟨h, X, G⟩ := T.h; exact He.glo_ok X G (T.c.z.y.d.fact 60 (f := .glo "is_right_row") rfl)
theorem g_rows_between : mg "rows_between" = some (.ref (He.ga K "rows_between")) := by obtain ⟨h, X, G⟩ := T.h; exact He.glo_ok X G (T.c.z.y.d.fact 61 (f := .glo "rows_between") rfl)
theorem g_steps_between : mg "steps_between" = some (.ref (He.ga K "steps_between")) := by obtain ⟨h, X, G⟩ := T.h; exact He.glo_ok X G (T.c.z.y.d.fact 62 (f := .glo "steps_between") rfl)
theorem g__law_rows_right : mg "_law_rows_right" = some (.ref (He.ga K "_law_rows_right")) := by obtain ⟨h, X, G⟩ := T.h; exact He.glo_ok X G (T.c.z.y.d.fact 63 (f := .glo "_law_rows_right") rfl)
theorem g_Stages : mg "Stages" = some (.ref (He.ga K "Stages")) := by obtain ⟨h, X, G⟩ := T.h; exact He.glo_ok X G (T.c.z.y.d.fact 64 (f := .glo "Stages") rfl)
theorem cl_Stages : Cls K (He.ga K "Stages") := He.cls_ok (T.c.z.y.d.fact 65 (f := .cls "Stages") rfl)
theorem g_need_stages : mg "need_stages" = some (.ref (He.ga K "need_stages")) := by obtain ⟨h, X, G⟩ := T.h; exact He.glo_ok X G (T.c.z.y.d.fact 66 (f := .glo "need_stages") rfl)
theorem g_gap : mg "gap" = some (.ref (He.ga K "gap")) := by obtain ⟨h, X, G⟩ := T.h; exact He.glo_ok X G (T.c.z.y.d.fact 69 (f := .glo "gap") rfl)
theorem g_are_indexes : mg "are_indexes" = some (.ref (He.ga K "are_indexes")) := by obtain ⟨h, X, G⟩ := T.h; exact He.glo_ok X G (T.c.z.y.d.fact 70 (f := .glo "are_indexes") rfl)
theorem mk_Stages : (He.Fa.mkr "Stages").ok K = true := T.c.z.y.d.fact 72 (f := .mkr "Stages") rfl
theorem g_are_right : mg "are_right" = some (.ref (He.ga K "are_right")) := by obtain ⟨h, X, G⟩ := T.h; exact He.glo_ok X G (T.c.z.y.d.fact 73 (f := .glo "are_right") rfl)
theorem g__law_stages_right : mg "_law_stages_right" = some (.ref (He.ga K "_law_stages_right")) := by obtain ⟨h, X, G⟩ := T.h; exact He.glo_ok X G (T.c.z.y.d.fact 74 (f := .glo "_law_stages_right") rfl)
theorem g__law_caught : mg "_law_caught" = some (.ref (He.ga K "_law_caught")) := by obtain ⟨h, X, G⟩ := T.h; exact He.glo_ok X G (T.c.z.y.d.fact 75 (f := .glo "_law_caught") rfl)
theorem g_KeepError : mg "KeepError" = some (.ref (He.ga K "KeepError")) := by obtain ⟨h, X, G⟩ := T.h; exact He.glo_ok X G (T.c.z.y.d.fact 76 (f := .glo "KeepError") rfl)
theorem g_OtherMachines : mg "OtherMachines" = some (.ref (He.ga K "OtherMachines")) := by obtain ⟨h, X, G⟩ := T.h; exact He.glo_ok X G (T.c.z.y.d.fact 82 (f := .glo "OtherMachines") rfl)
theorem g__law_said : mg "_law_said" = some (.ref (He.ga K "_law_said")) := by obtain ⟨h, X, G⟩ := T.h; exact He.glo_ok X G (T.c.z.y.d.fact 84 (f := .glo "_law_said") rfl)
theorem n_repr : mg "repr" = none := by obtain ⟨h, X, G⟩ := T.h; exact He.free_ok X G (T.c.z.y.d.fact 89 (f := .free "repr") rfl)
theorem g__law_refused_right : mg "_law_refused_right" = some (.ref (He.ga K "_law_refused_right")) := by obtain ⟨h, X, G⟩ := T.h; exact He.glo_ok X G (T.c.z.y.d.fact 90 (f := .glo "_law_refused_right") rfl)
theorem g_law : mg "law" = some (.ref (He.ga K "law")) := by obtain ⟨h, X, G⟩ := T.h; exact He.glo_ok X G (T.c.z.y.d.fact 91 (f := .glo "law") rfl)
theorem fld_Family_own_machines : FldF K mg "Family" "own_machines" := ⟨_, g_Family T, cl_Family T, He.noat_ok (T.c.z.y.d.fact 30 (f := .noat "Family" "own_machines") rfl)⟩
theorem fld_Family_own_least : FldF K mg "Family" "own_least" := ⟨_, g_Family T, cl_Family T, He.noat_ok (T.c.z.y.d.fact 35 (f := .noat "Family" "own_least") rfl)⟩
theorem fld_Stages_st_pairs : FldF K mg "Stages" "st_pairs" := ⟨_, g_Stages T, cl_Stages T, He.noat_ok (T.c.z.y.d.fact 67 (f := .noat "Stages" "st_pairs") rfl)⟩
theorem fld_Stages_st_done : FldF K mg "Stages" "st_done" := ⟨_, g_Stages T, cl_Stages T, He.noat_ok (T.c.z.y.d.fact 68 (f := .noat "Stages" "st_done") rfl)⟩
theorem fld_Stages_st_names : FldF K mg "Stages" "st_names" := ⟨_, g_Stages T, cl_Stages T, He.noat_ok (T.c.z.y.d.fact 71 (f := .noat "Stages" "st_names") rfl)⟩
theorem x_0 : (Fx.kitsT [.blt "list", .blt "tuple"] [("NoneType", false), ("bool", false), ("int", false), ("str", false), ("tuple", true), ("list", true), ("dict", false)]).ok K = true := T.c.z.y.fact 0 (f := .kitsT [.blt "list", .blt "tuple"] [("NoneType", false), ("bool", false), ("int", false), ("str", false), ("tuple", true), ("list", true), ("dict", false)]) rfl
theorem x_1 : (Fx.kits (.blt "str") [("NoneType", false), ("bool", false), ("int", false), ("str", true), ("tuple", false), ("list", false), ("dict", false)]).ok K = true := T.c.z.y.fact 1 (f := .kits (.blt "str") [("NoneType", false), ("bool", false), ("int", false), ("str", true), ("tuple", false), ("list", false), ("dict", false)]) rfl
theorem x_2 : (Fx.kits (.blt "tuple") [("NoneType", false), ("bool", false), ("int", false), ("str", false), ("tuple", true), ("list", false), ("dict", false)]).ok K = true := T.c.z.y.fact 2 (f := .kits (.blt "tuple") [("NoneType", false), ("bool", false), ("int", false), ("str", false), ("tuple", true), ("list", false), ("dict", false)]) rfl
theorem x_3 : (Fx.kits (.own "Family") [("NoneType", false), ("bool", false), ("int", false), ("str", false), ("tuple", false), ("list", false), ("dict", false)]).ok K = true := T.c.z.y.fact 3 (f := .kits (.own "Family") [("NoneType", false), ("bool", false), ("int", false), ("str", false), ("tuple", false), ("list", false), ("dict", false)]) rfl
theorem x_4 : (Fx.isi "Family" (.own "Family") true).ok K = true := T.c.z.y.fact 4 (f := .isi "Family" (.own "Family") true) rfl
theorem x_5 : (Fx.opr "Family" "__len__").ok K = true := T.c.z.y.fact 5 (f := .opr "Family" "__len__") rfl
theorem x_6 : (Fx.kits (.blt "int") [("NoneType", false), ("bool", true), ("int", true), ("str", false), ("tuple", false), ("list", false), ("dict", false)]).ok K = true := T.c.z.y.fact 6 (f := .kits (.blt "int") [("NoneType", false), ("bool", true), ("int", true), ("str", false), ("tuple", false), ("list", false), ("dict", false)]) rfl
theorem x_7 : (Fx.kits (.blt "bool") [("NoneType", false), ("bool", true), ("int", false), ("str", false), ("tuple", false), ("list", false), ("dict", false)]).ok K = true := T.c.z.y.fact 7 (f := .kits (.blt "bool") [("NoneType", false), ("bool", true), ("int", false), ("str", false), ("tuple", false), ("list", false), ("dict", false)]) rfl
theorem x_8 : (Fx.kits (.own "Stages") [("NoneType", false), ("bool", false), ("int", false), ("str", false), ("tuple", false), ("list", false), ("dict", false)]).ok K = true := T.c.z.y.fact 8 (f := .kits (.own "Stages") [("NoneType", false), ("bool", false), ("int", false), ("str", false), ("tuple", false), ("list", false), ("dict", false)]) rfl
theorem x_9 : (Fx.isi "Stages" (.own "Stages") true).ok K = true := T.c.z.y.fact 9 (f := .isi "Stages" (.own "Stages") true) rfl
theorem x_10 : (Fx.kits (.own "BadStages") [("NoneType", false), ("bool", false), ("int", false), ("str", false), ("tuple", false), ("list", false), ("dict", false)]).ok K = true := T.c.z.y.fact 10 (f := .kits (.own "BadStages") [("NoneType", false), ("bool", false), ("int", false), ("str", false), ("tuple", false), ("list", false), ("dict", false)]) rfl
theorem x_11 : (Fx.xis "OtherMachines" (.own "BadStages") false).ok K = true := T.c.z.y.fact 11 (f := .xis "OtherMachines" (.own "BadStages") false) rfl
theorem x_12 : (Fx.xcl "OtherMachines").ok K = true := T.c.z.y.fact 12 (f := .xcl "OtherMachines") rfl
theorem x_13 : (Fx.xis "BadStages" (.own "BadStages") true).ok K = true := T.c.z.y.fact 13 (f := .xis "BadStages" (.own "BadStages") true) rfl
theorem x_14 : (Fx.xcl "BadStages").ok K = true := T.c.z.y.fact 14 (f := .xcl "BadStages") rfl
theorem x_15 : (Fx.xis "BadLot" (.own "BadStages") false).ok K = true := T.c.z.y.fact 15 (f := .xis "BadLot" (.own "BadStages") false) rfl
theorem x_16 : (Fx.xcl "BadLot").ok K = true := T.c.z.y.fact 16 (f := .xcl "BadLot") rfl
theorem x_17 : (Fx.xis "BadIndex" (.own "BadStages") false).ok K = true := T.c.z.y.fact 17 (f := .xis "BadIndex" (.own "BadStages") false) rfl
theorem x_18 : (Fx.xcl "BadIndex").ok K = true := T.c.z.y.fact 18 (f := .xcl "BadIndex") rfl
theorem x_19 : (Fx.xis "BadFamily" (.own "BadStages") false).ok K = true := T.c.z.y.fact 19 (f := .xis "BadFamily" (.own "BadStages") false) rfl
theorem x_20 : (Fx.xcl "BadFamily").ok K = true := T.c.z.y.fact 20 (f := .xcl "BadFamily") rfl
theorem x_21 : (Fx.xis "BadCount" (.own "BadStages") false).ok K = true := T.c.z.y.fact 21 (f := .xis "BadCount" (.own "BadStages") false) rfl
theorem x_22 : (Fx.xcl "BadCount").ok K = true := T.c.z.y.fact 22 (f := .xcl "BadCount") rfl
theorem x_23 : (Fx.kits (.own "BadIndex") [("NoneType", false), ("bool", false), ("int", false), ("str", false), ("tuple", false), ("list", false), ("dict", false)]).ok K = true := T.c.z.y.fact 23 (f := .kits (.own "BadIndex") [("NoneType", false), ("bool", false), ("int", false), ("str", false), ("tuple", false), ("list", false), ("dict", false)]) rfl
theorem x_24 : (Fx.xis "OtherMachines" (.own "BadIndex") false).ok K = true := T.c.z.y.fact 24 (f := .xis "OtherMachines" (.own "BadIndex") false) rfl
theorem x_25 : (Fx.xis "BadStages" (.own "BadIndex") false).ok K = true := T.c.z.y.fact 25 (f := .xis "BadStages" (.own "BadIndex") false) rfl
theorem x_26 : (Fx.xis "BadLot" (.own "BadIndex") false).ok K = true := T.c.z.y.fact 26 (f := .xis "BadLot" (.own "BadIndex") false) rfl
theorem x_27 : (Fx.xis "BadIndex" (.own "BadIndex") true).ok K = true := T.c.z.y.fact 27 (f := .xis "BadIndex" (.own "BadIndex") true) rfl
theorem x_28 : (Fx.xis "BadFamily" (.own "BadIndex") false).ok K = true := T.c.z.y.fact 28 (f := .xis "BadFamily" (.own "BadIndex") false) rfl
theorem x_29 : (Fx.xis "BadCount" (.own "BadIndex") false).ok K = true := T.c.z.y.fact 29 (f := .xis "BadCount" (.own "BadIndex") false) rfl
theorem x_30 : (Fx.kits (.own "BadCount") [("NoneType", false), ("bool", false), ("int", false), ("str", false), ("tuple", false), ("list", false), ("dict", false)]).ok K = true := T.c.z.y.fact 30 (f := .kits (.own "BadCount") [("NoneType", false), ("bool", false), ("int", false), ("str", false), ("tuple", false), ("list", false), ("dict", false)]) rfl
theorem x_31 : (Fx.xis "OtherMachines" (.own "BadCount") false).ok K = true := T.c.z.y.fact 31 (f := .xis "OtherMachines" (.own "BadCount") false) rfl
theorem x_32 : (Fx.xis "BadStages" (.own "BadCount") false).ok K = true := T.c.z.y.fact 32 (f := .xis "BadStages" (.own "BadCount") false) rfl
theorem x_33 : (Fx.xis "BadLot" (.own "BadCount") false).ok K = true := T.c.z.y.fact 33 (f := .xis "BadLot" (.own "BadCount") false) rfl
theorem x_34 : (Fx.xis "BadIndex" (.own "BadCount") false).ok K = true := T.c.z.y.fact 34 (f := .xis "BadIndex" (.own "BadCount") false) rfl
theorem x_35 : (Fx.xis "BadFamily" (.own "BadCount") false).ok K = true := T.c.z.y.fact 35 (f := .xis "BadFamily" (.own "BadCount") false) rfl
theorem x_36 : (Fx.xis "BadCount" (.own "BadCount") true).ok K = true := T.c.z.y.fact 36 (f := .xis "BadCount" (.own "BadCount") true) rfl
theorem x0_BadLot : Exc0 K mg "BadLot" := exc0_ok (g_BadLot T) (T.c.z.y.d.fact 40 (f := .exc "BadLot") rfl)
theorem x1_BadFamily : Exc1 P K mg "BadFamily" "part" := T.c.exc1 0 (d := xd_BadFamily) (g_BadFamily T) xt_BadFamily
theorem x1_BadStages : Exc1 P K mg "BadStages" "part" := T.c.exc1 1 (d := xd_BadStages) (g_BadStages T) xt_BadStages
theorem x1_BadIndex : Exc1 P K mg "BadIndex" "index" := T.c.exc1 2 (d := xd_BadIndex) (g_BadIndex T) xt_BadIndex
theorem x1_BadCount : Exc1 P K mg "BadCount" "count" := T.c.exc1 3 (d := xd_BadCount) (g_BadCount T) xt_BadCount
theorem fd_law_caught : ∃ fd, FunD K "_law_caught" "_law_caught" (defArgs s_law_caught) (defBody s_law_caught) (defScope s_law_caught) [] [] (He.ga K "_law_caught") fd := T.c.z.y.d.def_ 44 (d := d_law_caught) rfl
theorem ca_law : CaughtF K mg "_law_caught" "_law_task" "KeepError" := by
  obtain ⟨fd, F⟩ := fd_law_caught T
  obtain ⟨j, q1, q2, q3, p1, p2, p3, p4, p5, p6, p7, p8, p9, r1, r2, e⟩ := cb_law_caught
  have b : Binds K fd ["_law_task"] [] := F.bindsN fun _ _ _ _ _ _ us hl => match us, hl with | [_], _ => by kernel_rfl
  rw [e] at F
  exact ⟨fd, _, _, "_law_caught_here", "_law_error", j, q1, q2, q3, p1, p2, p3, p4, p5, p6, p7, p8, p9, r1, r2, F, b, sc_law_caught, Or.inl rfl, g__law_caught T, g_KeepError T, rfl, by decide +kernel, sc_law_caught.nd, rfl, rfl, by decide +kernel, by decide +kernel, by decide +kernel, by decide +kernel⟩
theorem kx_law : ∀ z ∈ (["BadCount", "BadFamily", "BadIndex", "BadLot", "BadStages", "OtherMachines"] : List Str), mg z = some (.ref (He.ga K z)) /\ PySem.W.exmOne K (.ref (He.ga K z)) (.ref (He.ga K "KeepError")) = some true := by
  intro z hz
  simp only [List.mem_cons, List.not_mem_nil, or_false] at hz
  rcases hz with rfl | rfl | rfl | rfl | rfl | rfl
  · exact ⟨g_BadCount T, of_decide_eq_true (T.c.z.y.d.fact 77 (f := .exm "BadCount" "KeepError" true) rfl)⟩
  · exact ⟨g_BadFamily T, of_decide_eq_true (T.c.z.y.d.fact 78 (f := .exm "BadFamily" "KeepError" true) rfl)⟩
  · exact ⟨g_BadIndex T, of_decide_eq_true (T.c.z.y.d.fact 79 (f := .exm "BadIndex" "KeepError" true) rfl)⟩
  · exact ⟨g_BadLot T, of_decide_eq_true (T.c.z.y.d.fact 80 (f := .exm "BadLot" "KeepError" true) rfl)⟩
  · exact ⟨g_BadStages T, of_decide_eq_true (T.c.z.y.d.fact 81 (f := .exm "BadStages" "KeepError" true) rfl)⟩
  · exact ⟨g_OtherMachines T, of_decide_eq_true (T.c.z.y.d.fact 83 (f := .exm "OtherMachines" "KeepError" true) rfl)⟩
theorem fd_law_begun : ∃ fd, FunD K "_law_begun" "_law_begun" (defArgs s_law_begun) (defBody s_law_begun) (defScope s_law_begun) [] [] (He.ga K "_law_begun") fd := T.c.z.y.d.def_ 43 (d := d_law_begun) rfl
omit T in
theorem ok_begun0 {f : Addr} {fd : FuncData} (F : FunD K "_law_begun" "_law_begun" (defArgs s_law_begun) (defBody s_law_begun) (defScope s_law_begun) [] [] f fd) (nabs : mg "abs" = none) (nint : mg "int" = none) : FnOk P w K mg base L2.CX0 1 f fd ["_law_script"] (spB K mg w) := by
  refine F.ok sc_law_begun (fun vs H Q E h => ?_) (fun cdv A outer s H vs Q E hr h => ⟨_, PSs.nox (pss_cons (ps_setLc (i := 1) (own := [("_law_grain", 2)]) (g := gName 2) (by rfl) sc_law_begun.nd rfl rfl (sw_true rfl rfl rfl (by decide +kernel)) (pi_list (pv 0)) (blkOk_by (N := N_law_begun) (sc := defScope s_law_begun) (by decide +kernel))
      (fun _ _ _ _ _ => pg_name (i := 2) sc_law_begun.nd rfl (Or.inl rfl))
      (fun _ _ _ _ _ => pts_one (pt_cmpR op_ge (pe_callB call_abs rfl nabs bb_abs (pa_cons (pv 2) pa_nil)) (pe_op op_pow pe_int pe_int) (nomark _)))
      (fun _ _ _ _ _ => pe_op op_sub (pe_callB call_abs rfl nabs bb_abs (pa_cons (pv 2) pa_nil)) (pe_op op_pow pe_int pe_int)))
    (pss_one (ps_ret (pe_disp (pps_cons pe_str (pv 1) (pps_cons pe_str (pe_lc (own := [("_law_grain", 2)]) (g := gName 2) (tt := tYes) rfl sc_law_begun.nd (pi_list (pv 0)) (blkOk_by (N := N_law_begun) (sc := defScope s_law_begun) (by decide +kernel))
      (fun _ _ _ _ _ => pg_name (i := 2) sc_law_begun.nd rfl (Or.inl rfl)) (fun _ _ _ _ _ => pts_nil)
      (fun _ _ _ _ _ => pe_op op_mod (pe_callTy call_int1 rfl nint bb_int (pa_cons (pe_callB call_abs rfl nabs bb_abs (pa_cons (pv 2) pa_nil)) pa_nil)) pe_int))
      (pps_cons pe_str pe_int (pps_cons pe_str pe_int pps_nil)))) (by rfl) (by rfl) (fun z => by cases z) (by decide))))), ?_⟩)
  · obtain ⟨a, ns, rfl, _⟩ := h
    rfl
  · obtain ⟨a, ns, rfl, hS, hl, hQ⟩ := h
    refine ⟨_, rfl, a, rfl, ⟨_, hS⟩, fun D hD => ?_⟩
    refine lc_ints (K := K) (ns := ns) (fun g => decide (10 ^ 18 <= absI g)) (fun g => absI g - 10 ^ 18) walk_list hS hD hl ?_ ?_
    · intro n H' P' acc hacc hlt h1 h2
      refine ⟨rfl, ⟨_, rfl, n, rfl, 10, 18, rfl, rfl, ⟨by decide, by decide, by decide⟩, _, _, rfl, rfl, _, rfl, ?_⟩⟩
      by_cases c : (10 : Int) ^ Int.toNat 18 <= (if n < 0 then -n else n)
      · rw [decide_eq_true c]
        exact iteT ⟨_, rfl, n, rfl, 10, 18, rfl, rfl, ⟨by decide, by decide, by decide⟩, _, _, rfl, rfl, acc, hacc, hlt, h1 (decide_eq_true c)⟩
      · rw [decide_eq_false c]
        exact iteF (h2 (decide_eq_false c))
    · intro p hp
      have hpD : p ≠ D := fun z => by rw [z, upd_same] at hp; cases hp
      have hpH : H p = none := by rw [upd_ne hpD] at hp; exact hp
      have hS2 : SqL K (upd (upd H D (.lst ((wideOf ns).map V.int))) p (.dK [])) a (ns.map V.int) := L2.Same.seq (fun b o e => by rw [upd_ne (ne_of_none e hpH), upd_ne (ne_of_none e hD)]; exact e) hS
      refine ⟨_, rfl, _, rfl, a, rfl, ⟨_, hS2⟩, fun D2 hD2 => ?_⟩
      refine lc_ints (K := K) (ns := ns) (fun _ => true) (fun g => absI g % 2147483629) walk_list hS2 hD2 hl ?_ ?_
      · intro n H' P' acc hacc hlt h1 h2
        exact ⟨rfl, _, rfl, n, rfl, .inl ⟨_, rfl, _, _, rfl, rfl, (by decide : (0:Int) < 2147483629), acc, hacc, hlt, h1 rfl⟩⟩
      · have hD2p : D2 ≠ p := fun z => by rw [z, upd_same] at hD2; cases hD2
        have hD2D : D2 ≠ D := fun z => by rw [z, upd_ne hpD.symm, upd_same] at hD2; cases hD2
        have hD2H : H D2 = none := by rw [upd_ne hD2p, upd_ne hD2D] at hD2; exact hD2
        refine ⟨by rw [upd_ne hD2p.symm, upd_same], [(Sum.inr "wide", .ref D), (Sum.inr "cells", .ref D2), (Sum.inr "rest", .int 0), (Sum.inr "turn", .int 0)], rfl, (by decide : (4:Nat) <= 15), ?_⟩
        refine hQ ⟨p, D, D2, p, p, [], [], true⟩ _ ⟨fun b o e => ?_, fun b e => ?_, fun b o e => ?_, hpH, hD, hD2H, ⟨?_, ?_, ?_, hD2D.symm⟩, rfl, rfl⟩
        · rw [upd_ne (ne_of_none e hpH), upd_ne (ne_of_none e hD2H), upd_ne (ne_of_none e hpH), upd_ne (ne_of_none e hD)]; exact e
        · have h1 : b ≠ p := fun z => by rw [z, upd_same] at e; cases e
          rw [upd_ne h1] at e
          have h2 : b ≠ D2 := fun z => by rw [z, upd_same] at e; cases e
          rw [upd_ne h2, upd_ne h1] at e
          have h3 : b ≠ D := fun z => by rw [z, upd_same] at e; cases e
          rw [upd_ne h3] at e
          exact e
        · by_cases h1 : b = p
          · subst h1
            rw [upd_same] at e
            cases e
            exact .inr ⟨fun _ z => (by cases z), fun _ _ z => (by unfold LamX.CodeO at z; cases z)⟩
          rw [upd_ne h1] at e
          by_cases h2 : b = D2
          · subst h2
            rw [upd_same] at e
            cases e
            exact .inr ⟨fun _ z => (by cases z), fun _ _ z => (by unfold LamX.CodeO at z; cases z)⟩
          rw [upd_ne h2, upd_ne h1] at e
          by_cases h3 : b = D
          · subst h3
            rw [upd_same] at e
            cases e
            exact .inr ⟨fun _ z => (by cases z), fun _ _ z => (by unfold LamX.CodeO at z; cases z)⟩
          rw [upd_ne h3] at e
          exact .inl e
        · show upd _ p _ p = _
          rw [upd_same]; rfl
        · show upd _ p _ D = _
          rw [upd_ne hpD.symm, upd_ne hD2D.symm, upd_ne hpD.symm, upd_same]; rfl
        · show upd _ p _ D2 = _
          rw [upd_ne hD2p, upd_same]
          rw [List.filter_eq_self.mpr fun _ _ => rfl]
          rfl
theorem ok_begun {f : Addr} {fd : FuncData} (F : FunD K "_law_begun" "_law_begun" (defArgs s_law_begun) (defBody s_law_begun) (defScope s_law_begun) [] [] f fd) : FnOk P w K mg base L2.CX0 1 f fd ["_law_script"] (spB K mg w) := ok_begun0 F (n_abs T) (n_int T)
theorem fd_law_mixed : ∃ fd, FunD K "_law_mixed" "_law_mixed" (defArgs s_law_mixed) (defBody s_law_mixed) (defScope s_law_mixed) [] [] (He.ga K "_law_mixed") fd := T.c.z.y.d.def_ 0 (d := d_law_mixed) rfl
theorem f_law_mixed : DFn P w K mg base "_law_mixed" 1 1 m_law_mixed := by
  obtain ⟨fd, F⟩ := fd_law_mixed T
  refine def_of (g__law_mixed T) F.kp rfl (F.bindsN (ps := ["_law_draw"]) fun _ _ _ _ _ _ us hl => match us, hl with | [_], _ => by kernel_rfl) ?_
  have R := @dfn_of P w K mg base _ _ s_law_mixed _ fd N_law_mixed _ 0 _ b_law_mixed _ _ F sc_law_mixed rfl (fun cdv A outer s H E dl hr tk hp => by
    exact (dss_cons (ds_par 1 2 rfl sc_law_mixed.nd (des_fz (de_bin od_add (de_turn 0 (hu64 hr)) de_int)) (des_fz de_int)) (dss_cons (ds_turn 0 (hu64 hr) (de_var 1)) (dss_cons (ds_for hp rfl (di_seq (de_lst (da_cons de_int (da_cons de_int (da_cons de_int (da_cons de_int da_nil)))))) (dg_name 3 sc_law_mixed.nd) (dss_cons (ds_set 4 sc_law_mixed.nd (de_bin od_add (de_bin od_mul de_int (de_var 1)) (de_bin od_fdiv (de_var 3) de_int))) (dss_cons (ds_forC 0 (hu64 hr) hp rfl (dg_name 5 sc_law_mixed.nd) (dss_one (ds_set 4 sc_law_mixed.nd (de_bin od_mod (de_callTy cd_int rfl (n_int T) bb_int (da_cons (de_bin od_add (de_bin od_add (de_bin od_mul (de_var 4) de_int) (de_var 5)) (de_var 1)) da_nil)) (de_var 3)))) (still_asg fun G => by repeat (first | exact stl_gv | exact stl_ret | exact stl_sa0 | apply stl_g2 | apply stl_gC | apply stl_saC))) (dss_one (ds_set 2 sc_law_mixed.nd (de_bin od_add (de_bin od_mul (de_var 2) de_int) (de_bin od_mod (de_callTy cd_int rfl (n_int T) bb_int (da_cons (de_bin od_pow (de_var 4) de_int) da_nil)) (de_var 3)))))))) (dss_one (ds_ret (de_var 2)))))))
  exact R
theorem fd_law_take : ∃ fd, FunD K "_law_take" "_law_take" (defArgs s_law_take) (defBody s_law_take) (defScope s_law_take) [] [] (He.ga K "_law_take") fd := T.c.z.y.d.def_ 1 (d := d_law_take) rfl
theorem f_law_take : DFn P w K mg base "_law_take" 2 2 m_law_take := by
  obtain ⟨fd, F⟩ := fd_law_take T
  refine def_of (g__law_take T) F.kp rfl (F.bindsN (ps := ["_law_draw", "_law_size"]) fun _ _ _ _ _ _ us hl => match us, hl with | [_, _], _ => by kernel_rfl) ?_
  have R := @dfn_of P w K mg base _ _ s_law_take _ fd N_law_take _ 1 _ b_law_take _ _ F sc_law_take rfl (fun cdv A outer s H E dl hr tk hp => by
    exact (dss_cons (ds_if (dt_cmp (od_eq (hu64 hr)) (de_rest 0 (hu64 hr)) de_int (by rfl)) (dss_one (ds_rest 0 (hu64 hr) (de_ifExp (dt_wide 0 (hu64 hr)) (de_popW 0 (hu64 hr)) (de_call (f_law_mixed T) (hr.mono (by decide)) tk (da_cons (de_var 0) da_nil))))) dss_nil) (dss_cons (ds_set 2 sc_law_take.nd (de_bin od_mod (de_callTy cd_int rfl (n_int T) bb_int (da_cons (de_rest 0 (hu64 hr)) da_nil)) (de_var 1))) (dss_cons (ds_rest 0 (hu64 hr) (de_bin od_fdiv (de_rest 0 (hu64 hr)) (de_var 1))) (dss_one (ds_ret (de_var 2)))))))
  exact R
theorem fd_law_pick : ∃ fd, FunD K "_law_pick" "_law_pick" (defArgs s_law_pick) (defBody s_law_pick) (defScope s_law_pick) [] [] (He.ga K "_law_pick") fd := T.c.z.y.d.def_ 2 (d := d_law_pick) rfl
theorem f_law_pick : DFn P w K mg base "_law_pick" 3 2 m_law_pick := by
  obtain ⟨fd, F⟩ := fd_law_pick T
  refine def_of (g__law_pick T) F.kp rfl (F.bindsN (ps := ["_law_draw", "_law_some"]) fun _ _ _ _ _ _ us hl => match us, hl with | [_, _], _ => by kernel_rfl) ?_
  have R := @dfn_of P w K mg base _ _ s_law_pick _ fd N_law_pick _ 2 _ b_law_pick _ _ F sc_law_pick rfl (fun cdv A outer s H E dl hr tk hp => by
    exact (dss_one (ds_ret (de_sub (de_var 1) (de_call (f_law_take T) (hr.mono (by decide)) tk (da_cons (de_var 0) (da_cons (de_callB cd_len rfl (n_len T) bb_len (da_cons (de_var 1) da_nil)) da_nil)))))))
  exact R
theorem fd_law_title : ∃ fd, FunD K "_law_title" "_law_title" (defArgs s_law_title) (defBody s_law_title) (defScope s_law_title) [] [] (He.ga K "_law_title") fd := T.c.z.y.d.def_ 3 (d := d_law_title) rfl
theorem f_law_title : DFn P w K mg base "_law_title" 4 1 m_law_title := by
  obtain ⟨fd, F⟩ := fd_law_title T
  refine def_of (g__law_title T) F.kp rfl (F.bindsN (ps := ["_law_draw"]) fun _ _ _ _ _ _ us hl => match us, hl with | [_], _ => by kernel_rfl) ?_
  have R := @dfn_of P w K mg base _ _ s_law_title _ fd N_law_title _ 3 _ b_law_title _ _ F sc_law_title rfl (fun cdv A outer s H E dl hr tk hp => by
    exact (dss_cons (ds_set 1 sc_law_title.nd de_str) (dss_cons (ds_if (dt_cmp od_gt (de_call (f_law_take T) (hr.mono (by decide)) tk (da_cons (de_var 0) (da_cons de_int da_nil))) de_int (by rfl)) (dss_one (ds_ret (de_call (f_law_pick T) (hr.mono (by decide)) tk (da_cons (de_var 0) (da_cons (de_lst (da_cons de_str (da_cons de_str (da_cons de_str (da_cons de_str (da_cons de_str (da_cons de_str (da_cons de_str (da_cons de_str (da_cons de_str (da_cons de_str (da_cons de_str (da_cons de_str da_nil))))))))))))) da_nil))))) dss_nil) (dss_one (ds_ret (de_join de_str (de_own (deo_lc (own := [("_law_sign", 2)]) rfl sc_law_title.nd (dim_of (di_range1 rfl (n_range T) (da_cons (de_bin od_add de_int (de_call (f_law_take T) (hr.mono (by decide)) tk (da_cons (de_var 0) (da_cons de_int da_nil)))) da_nil))) (blkOk_by (N := N_law_title) (sc := defScope s_law_title) (by decide +kernel)) (by decide) (fun _ _ _ _ _ => (dg_name 2 sc_law_title.nd)) (fun _ _ _ _ _ => dts_nil) (fun _ _ _ _ _ => (de_call (f_law_pick T) (hr.mono (by decide)) takes0 (da_cons (de_var 0) (da_cons (de_var 1) da_nil))))))))))))
  exact R
theorem fd_law_labels : ∃ fd, FunD K "_law_labels" "_law_labels" (defArgs s_law_labels) (defBody s_law_labels) (defScope s_law_labels) [] [] (He.ga K "_law_labels") fd := T.c.z.y.d.def_ 4 (d := d_law_labels) rfl
theorem f_law_labels : DFn P w K mg base "_law_labels" 5 2 m_law_labels := by
  obtain ⟨fd, F⟩ := fd_law_labels T
  refine def_of (g__law_labels T) F.kp rfl (F.bindsN (ps := ["_law_draw", "_law_many"]) fun _ _ _ _ _ _ us hl => match us, hl with | [_, _], _ => by kernel_rfl) ?_
  have R := @dfn_of P w K mg base _ _ s_law_labels _ fd N_law_labels _ 4 _ b_law_labels _ _ F sc_law_labels rfl (fun cdv A outer s H E dl hr tk hp => by
    exact (dss_cons (ds_parT 2 3 rfl sc_law_labels.nd (des_own (deo_lstD da_nil)) (des_fz de_str)) (dss_cons (ds_for hp rfl (di_range1 rfl (n_range T) (da_cons (de_var 1) da_nil)) (dg_name 4 sc_law_labels.nd) (dss_cons (ds_set 5 sc_law_labels.nd (de_call (f_law_title T) (hr.mono (by decide)) tk (da_cons (de_var 0) da_nil))) (dss_cons (ds_set 6 sc_law_labels.nd (de_bin od_add (de_lst (da_cons (de_var 5) da_nil)) (de_own (deo_lc (own := [("_law_sign", 7)]) rfl sc_law_labels.nd (dim_of (di_seq (de_var 3))) (blkOk_by (N := N_law_labels) (sc := defScope s_law_labels) (by decide +kernel)) (by decide) (fun _ _ _ _ _ => (dg_name 7 sc_law_labels.nd)) (fun _ _ _ _ _ => dts_nil) (fun _ _ _ _ _ => (de_bin od_add (de_bin od_add (de_sliceT (de_var 5) do_none (do_some de_int)) (de_var 7)) de_str)))))) (dss_one (ds_append 2 (de_lendO 2 (de_sub (de_own (deo_lc (own := [("_law_one", 8)]) rfl sc_law_labels.nd (dim_of (di_seq (de_var 6))) (blkOk_by (N := N_law_labels) (sc := defScope s_law_labels) (by decide +kernel)) (by decide) (fun _ _ _ _ _ => (dg_name 8 sc_law_labels.nd)) (fun _ _ _ _ _ => (dts_one (dt_cmp od_notIn (de_var 8) (de_var 2) (by rfl)))) (fun _ _ _ _ _ => (de_var 8)))) de_int))))))) (dss_frz 2 (dss_one (ds_ret (de_callB (cd_sorted (hu64 hr)) rfl (n_sorted T) bb_sorted (da_cons (de_var 2) da_nil))))))))
  exact R
theorem fd_is_list : ∃ fd, FunD K "is_list" "is_list" (defArgs s_is_list) (defBody s_is_list) (defScope s_is_list) [] [] (He.ga K "is_list") fd := T.c.z.y.d.def_ 5 (d := d_is_list) rfl
theorem f_is_list : DFn P w K mg base "is_list" 1 1 m_is_list := by
  obtain ⟨fd, F⟩ := fd_is_list T
  refine def_of (g_is_list T) F.kp rfl (F.bindsN (ps := ["thing"]) fun _ _ _ _ _ _ us hl => match us, hl with | [_], _ => by kernel_rfl) ?_
  have R := @dfn_of P w K mg base _ _ s_is_list _ fd N_is_list _ 0 _ b_is_list _ _ F sc_is_list rfl (fun cdv A outer s H E dl hr tk hp => by
    exact (dss_one (ds_ret (de_isiT (us := [.type "list", .type "tuple"]) (cvs := [(.ty "list"), (.ty "tuple")]) rfl (n_isinstance T) (pa_ty2 (pe_bltn (v := .ty "list") rfl (n_list T) bb_list rfl) (pe_bltn (v := .ty "tuple") rfl (n_tuple T) bb_tuple rfl)) (.cons (.ty _) (.cons (.ty _) .nil)) (by decide) no_clsT (kitsT_ok (x_0 T)) (de_var 0)))))
  exact R
theorem fd_is_name : ∃ fd, FunD K "is_name" "is_name" (defArgs s_is_name) (defBody s_is_name) (defScope s_is_name) [] [] (He.ga K "is_name") fd := T.c.z.y.d.def_ 6 (d := d_is_name) rfl
theorem f_is_name : DFn P w K mg base "is_name" 1 1 m_is_name := by
  obtain ⟨fd, F⟩ := fd_is_name T
  refine def_of (g_is_name T) F.kp rfl (F.bindsN (ps := ["thing"]) fun _ _ _ _ _ _ us hl => match us, hl with | [_], _ => by kernel_rfl) ?_
  have R := @dfn_of P w K mg base _ _ s_is_name _ fd N_is_name _ 0 _ b_is_name _ _ F sc_is_name rfl (fun cdv A outer s H E dl hr tk hp => by
    exact (dss_one (ds_ret (de_and (de_isi rfl (n_isinstance T) (pe_bltn (v := .ty "str") rfl (n_str T) bb_str rfl) (.ty _) no_cls (kits_ok (x_1 T)) (de_var 0)) (de_and (de_chain od_le od_le de_int (de_callB cd_len rfl (n_len T) bb_len (da_cons (de_var 0) da_nil)) de_int) (de_one (de_callB (cd_all rfl) rfl (n_all T) bb_all (da_cons (de_own (deo_lc (own := [("sign", 1)]) rfl sc_is_name.nd (dim_of (di_seq (de_var 0))) (blkOk_by (N := N_is_name) (sc := defScope s_is_name) (by decide +kernel)) (by decide) (fun _ _ _ _ _ => (dg_name 1 sc_is_name.nd)) (fun _ _ _ _ _ => dts_nil) (fun _ _ _ _ _ => (de_cmp od_in (de_var 1) (de_gstr rfl (c_LETTERS T).choose_spec) (by rfl))))) da_nil))))))))
  exact R
theorem fd_are_machines : ∃ fd, FunD K "are_machines" "are_machines" (defArgs s_are_machines) (defBody s_are_machines) (defScope s_are_machines) [] [] (He.ga K "are_machines") fd := T.c.z.y.d.def_ 7 (d := d_are_machines) rfl
theorem f_are_machines : DFn P w K mg base "are_machines" 2 1 m_are_machines := by
  obtain ⟨fd, F⟩ := fd_are_machines T
  refine def_of (g_are_machines T) F.kp rfl (F.bindsN (ps := ["thing"]) fun _ _ _ _ _ _ us hl => match us, hl with | [_], _ => by kernel_rfl) ?_
  have R := @dfn_of P w K mg base _ _ s_are_machines _ fd N_are_machines _ 1 _ b_are_machines _ _ F sc_are_machines rfl (fun cdv A outer s H E dl hr tk hp => by
    exact (dss_cons (ds_if (dt_w (dw_or (dt_not (dt_val (de_call (f_is_list T) (hr.mono (by decide)) tk (da_cons (de_var 0) da_nil)))) (dw_or (dt_not (dt_chain od_le od_le de_int (de_callB cd_len rfl (n_len T) bb_len (da_cons (de_var 0) da_nil)) (de_gint rfl (c_MOST_MACHINES T).choose_spec))) (dw_or1 (dt_not (dt_val (de_callB (cd_all rfl) rfl (n_all T) bb_all (da_cons (de_own (deo_lc (own := [("name", 1)]) rfl sc_are_machines.nd (dim_of (di_seq (de_var 0))) (blkOk_by (N := N_are_machines) (sc := defScope s_are_machines) (by decide +kernel)) (by decide) (fun _ _ _ _ _ => (dg_name 1 sc_are_machines.nd)) (fun _ _ _ _ _ => dts_nil) (fun _ _ _ _ _ => (de_call (f_is_name T) (hr.mono (by decide)) takes0 (da_cons (de_var 1) da_nil))))) da_nil)))))))) (dss_one (ds_ret de_bl)) dss_nil) (dss_one (ds_ret (de_cmp (od_eq (hu64 hr)) (de_ofSet sc_len rfl rfl (n_len T) bb_len rfl (n_set T) (de_var 0)) (de_callB cd_len rfl (n_len T) bb_len (da_cons (de_var 0) da_nil)) (by rfl))))))
  exact R
theorem fd_is_lot : ∃ fd, FunD K "is_lot" "is_lot" (defArgs s_is_lot) (defBody s_is_lot) (defScope s_is_lot) [] [] (He.ga K "is_lot") fd := T.c.z.y.d.def_ 8 (d := d_is_lot) rfl
theorem f_is_lot : DFn P w K mg base "is_lot" 1 2 m_is_lot := by
  obtain ⟨fd, F⟩ := fd_is_lot T
  refine def_of (g_is_lot T) F.kp rfl (F.bindsN (ps := ["machines", "thing"]) fun _ _ _ _ _ _ us hl => match us, hl with | [_, _], _ => by kernel_rfl) ?_
  have R := @dfn_of P w K mg base _ _ s_is_lot _ fd N_is_lot _ 0 _ b_is_lot _ _ F sc_is_lot rfl (fun cdv A outer s H E dl hr tk hp => by
    exact (dss_cons (ds_if (dt_w (dw_or (dt_not (dt_val (de_isi rfl (n_isinstance T) (pe_bltn (v := .ty "tuple") rfl (n_tuple T) bb_tuple rfl) (.ty _) no_cls (kits_ok (x_2 T)) (de_var 1)))) (dw_or1 (dt_not (dt_val (de_callB (cd_all rfl) rfl (n_all T) bb_all (da_cons (de_own (deo_lc (own := [("name", 2)]) rfl sc_is_lot.nd (dim_of (di_seq (de_var 1))) (blkOk_by (N := N_is_lot) (sc := defScope s_is_lot) (by decide +kernel)) (by decide) (fun _ _ _ _ _ => (dg_name 2 sc_is_lot.nd)) (fun _ _ _ _ _ => dts_nil) (fun _ _ _ _ _ => (de_and (de_isi rfl (n_isinstance T) (pe_bltn (v := .ty "str") rfl (n_str T) bb_str rfl) (.ty _) no_cls (kits_ok (x_1 T)) (de_var 2)) (de_one (de_cmp od_in (de_var 2) (de_var 0) (by rfl))))))) da_nil))))))) (dss_one (ds_ret de_bl)) dss_nil) (dss_one (ds_ret (de_callB (cd_all rfl) rfl (n_all T) bb_all (da_cons (de_own (deo_lc (own := [("one", 3), ("other", 4)]) rfl sc_is_lot.nd (dim_of (di_zip rfl (n_zip T) (da_cons (de_var 1) (da_cons (de_slice (de_var 1) (do_some de_int) do_none) da_nil)))) (blkOk_by (N := N_is_lot) (sc := defScope s_is_lot) (by decide +kernel)) (by decide) (fun _ _ _ _ _ => (dg_tup (n := 2) rfl (lenK (lenK lenN)) (dgs_cons (dg_name 3 sc_is_lot.nd) (dgs_cons (dg_name 4 sc_is_lot.nd) dgs_nil)))) (fun _ _ _ _ _ => dts_nil) (fun _ _ _ _ _ => (de_cmp (od_ltP (hu64 hr)) (de_var 3) (de_var 4) (by rfl))))) da_nil))))))
  exact R
theorem fd_are_lots : ∃ fd, FunD K "are_lots" "are_lots" (defArgs s_are_lots) (defBody s_are_lots) (defScope s_are_lots) [] [] (He.ga K "are_lots") fd := T.c.z.y.d.def_ 9 (d := d_are_lots) rfl
theorem f_are_lots : DFn P w K mg base "are_lots" 2 2 m_are_lots := by
  obtain ⟨fd, F⟩ := fd_are_lots T
  refine def_of (g_are_lots T) F.kp rfl (F.bindsN (ps := ["machines", "thing"]) fun _ _ _ _ _ _ us hl => match us, hl with | [_, _], _ => by kernel_rfl) ?_
  have R := @dfn_of P w K mg base _ _ s_are_lots _ fd N_are_lots _ 1 _ b_are_lots _ _ F sc_are_lots rfl (fun cdv A outer s H E dl hr tk hp => by
    exact (dss_one (ds_ret (de_and (de_call (f_is_list T) (hr.mono (by decide)) tk (da_cons (de_var 1) da_nil)) (de_and (de_cmp od_le (de_callB cd_len rfl (n_len T) bb_len (da_cons (de_var 1) da_nil)) (de_gint rfl (c_MOST_LOTS T).choose_spec) (by rfl)) (de_one (de_callB (cd_all rfl) rfl (n_all T) bb_all (da_cons (de_own (deo_lc (own := [("lot", 2)]) rfl sc_are_lots.nd (dim_of (di_seq (de_var 1))) (blkOk_by (N := N_are_lots) (sc := defScope s_are_lots) (by decide +kernel)) (by decide) (fun _ _ _ _ _ => (dg_name 2 sc_are_lots.nd)) (fun _ _ _ _ _ => dts_nil) (fun _ _ _ _ _ => (de_call (f_is_lot T) (hr.mono (by decide)) takes0 (da_cons (de_var 0) (da_cons (de_var 2) da_nil)))))) da_nil))))))))
  exact R
theorem fd_in_order : ∃ fd, FunD K "in_order" "in_order" (defArgs s_in_order) (defBody s_in_order) (defScope s_in_order) [] [] (He.ga K "in_order") fd := T.c.z.y.d.def_ 10 (d := d_in_order) rfl
theorem f_in_order : DFn P w K mg base "in_order" 1 1 m_in_order := by
  obtain ⟨fd, F⟩ := fd_in_order T
  refine def_of (g_in_order T) F.kp rfl (F.bindsN (ps := ["lots"]) fun _ _ _ _ _ _ us hl => match us, hl with | [_], _ => by kernel_rfl) ?_
  have R := @dfn_of P w K mg base _ _ s_in_order _ fd N_in_order _ 0 _ b_in_order _ _ F sc_in_order rfl (fun cdv A outer s H E dl hr tk hp => by
    exact (dss_one (ds_ret (de_own (deo_lc (own := [("many", 1), ("lot", 2)]) rfl sc_in_order.nd (dim_of (di_seq (de_callB (cd_sorted (hu64 hr)) rfl (n_sorted T) bb_sorted (da_cons (de_own (deo_lc (own := [("lot", 2)]) rfl sc_in_order.nd (dim_of (di_seq (de_var 0))) (blkOk_by (N := N_in_order) (sc := defScope s_in_order) (by decide +kernel)) (by decide) (fun _ _ _ _ _ => (dg_name 2 sc_in_order.nd)) (fun _ _ _ _ _ => dts_nil) (fun _ _ _ _ _ => (de_tup (da_cons (de_callB cd_len rfl (n_len T) bb_len (da_cons (de_var 2) da_nil)) (da_cons (de_var 2) da_nil)))))) da_nil)))) (blkOk_by (N := N_in_order) (sc := defScope s_in_order) (by decide +kernel)) (by decide) (fun _ _ _ _ _ => (dg_tup (n := 2) rfl (lenK (lenK lenN)) (dgs_cons (dg_name 1 sc_in_order.nd) (dgs_cons (dg_name 2 sc_in_order.nd) dgs_nil)))) (fun _ _ _ _ _ => dts_nil) (fun _ _ _ _ _ => (de_var 2)))))))
  exact R
theorem fd_is_inside : ∃ fd, FunD K "is_inside" "is_inside" (defArgs s_is_inside) (defBody s_is_inside) (defScope s_is_inside) [] [] (He.ga K "is_inside") fd := T.c.z.y.d.def_ 11 (d := d_is_inside) rfl
theorem f_is_inside : DFn P w K mg base "is_inside" 1 2 m_is_inside := by
  obtain ⟨fd, F⟩ := fd_is_inside T
  refine def_of (g_is_inside T) F.kp rfl (F.bindsN (ps := ["lot", "other"]) fun _ _ _ _ _ _ us hl => match us, hl with | [_, _], _ => by kernel_rfl) ?_
  have R := @dfn_of P w K mg base _ _ s_is_inside _ fd N_is_inside _ 0 _ b_is_inside _ _ F sc_is_inside rfl (fun cdv A outer s H E dl hr tk hp => by
    exact (dss_one (ds_ret (de_callB (cd_all rfl) rfl (n_all T) bb_all (da_cons (de_own (deo_lc (own := [("name", 2)]) rfl sc_is_inside.nd (dim_of (di_seq (de_var 0))) (blkOk_by (N := N_is_inside) (sc := defScope s_is_inside) (by decide +kernel)) (by decide) (fun _ _ _ _ _ => (dg_name 2 sc_is_inside.nd)) (fun _ _ _ _ _ => dts_nil) (fun _ _ _ _ _ => (de_cmp od_in (de_var 2) (de_var 1) (by rfl))))) da_nil)))))
  exact R
theorem fd_least_of : ∃ fd, FunD K "least_of" "least_of" (defArgs s_least_of) (defBody s_least_of) (defScope s_least_of) [] [] (He.ga K "least_of") fd := T.c.z.y.d.def_ 12 (d := d_least_of) rfl
theorem f_least_of : DFn P w K mg base "least_of" 2 1 m_least_of := by
  obtain ⟨fd, F⟩ := fd_least_of T
  refine def_of (g_least_of T) F.kp rfl (F.bindsN (ps := ["lots"]) fun _ _ _ _ _ _ us hl => match us, hl with | [_], _ => by kernel_rfl) ?_
  have R := @dfn_of P w K mg base _ _ s_least_of _ fd N_least_of _ 1 _ b_least_of _ _ F sc_least_of rfl (fun cdv A outer s H E dl hr tk hp => by
    exact (dss_cons (ds_own 1 sc_least_of.nd (deo_lstD da_nil)) (dss_cons (ds_for hp rfl (di_seq (de_call (f_in_order T) (hr.mono (by decide)) tk (da_cons (de_var 0) da_nil))) (dg_name 2 sc_least_of.nd) (dss_one (ds_if (dt_not (dt_val (de_callB (cd_any rfl) rfl (n_any T) bb_any (da_cons (de_own (deo_lc (own := [("less", 3)]) rfl sc_least_of.nd (di_own (pe_var rfl (by first | exact Or.inl rfl | exact Or.inr (Or.inl rfl) | exact Or.inr (Or.inr rfl)) (by decide) (by decide))) (blkOk_by (N := N_least_of) (sc := defScope s_least_of) (by decide +kernel)) (by decide) (fun _ _ _ _ _ => (dg_name 3 sc_least_of.nd)) (fun _ _ _ _ _ => dts_nil) (fun _ _ _ _ _ => (de_call (f_is_inside T) (hr.mono (by decide)) takes0 (da_cons (de_var 3) (da_cons (de_var 2) da_nil)))))) da_nil)))) (dss_one (ds_append 1 (de_var 2))) dss_nil))) (dss_frz 1 (dss_one (ds_ret (de_var 1)))))))
  exact R
theorem fd_Family___init__ : ∃ fd, FunD K "__init__" "Family.__init__" (defArgs s_Family___init__) (defBody s_Family___init__) (defScope s_Family___init__) [] [] (He.ma K (He.ga K "Family") "__init__") fd := T.c.z.y.d.def_ 13 (d := d_Family___init__) rfl
theorem f_Family___init__ : MkF P w K mg base "Family" 3 2 m_Family___init__ := by
  obtain ⟨fd, F⟩ := fd_Family___init__ T
  refine make_of (g_Family T) (mk_Family T) rfl (F.bindsN (ps := ["self", "machines", "lots"]) fun _ _ _ _ _ _ us hl => match us, hl with | [_, _, _], _ => by kernel_rfl) ?_
  have R := @ifn_of P w K mg base _ _ "Family" s_Family___init__ _ fd N_Family___init__ _ 2 _ b_Family___init__ _ _ F sc_Family___init__ rfl (fun cdv A outer s H E dl hr tk hp => by
    exact (dss_cons (ds_if (dt_not (dt_val (de_call (f_are_machines T) (hr.mono (by decide)) tk (da_cons (de_var 1) da_nil)))) (dss_one (ds_raise1 (k := 0) (x1_BadFamily T) rfl (hr.mono (by decide)) tk de_str)) dss_nil) (dss_cons (ds_if (dt_not (dt_val (de_call (f_are_lots T) (hr.mono (by decide)) tk (da_cons (de_var 1) (da_cons (de_var 2) da_nil))))) (dss_one (ds_raise1 (k := 0) (x1_BadFamily T) rfl (hr.mono (by decide)) tk de_str)) dss_nil) (dss_cons (ds_fldC (fld_Family_own_machines T) (de_callTy cd_tuple rfl (n_tuple T) bb_tuple (da_cons (de_callB (cd_sorted (hu64 hr)) rfl (n_sorted T) bb_sorted (da_cons (de_var 1) da_nil)) da_nil))) (dss_one (ds_fldC (fld_Family_own_least T) (de_call (f_least_of T) (hr.mono (by decide)) tk (da_cons (de_var 2) da_nil))))))))
  exact R
theorem fd_law_four : ∃ fd, FunD K "_law_four" "_law_four" (defArgs s_law_four) (defBody s_law_four) (defScope s_law_four) [] [] (He.ga K "_law_four") fd := T.c.z.y.d.def_ 14 (d := d_law_four) rfl
theorem f_law_four : DFn P w K mg base "_law_four" 5 1 m_law_four := by
  obtain ⟨fd, F⟩ := fd_law_four T
  refine def_of (g__law_four T) F.kp rfl (F.bindsN (ps := ["_law_names"]) fun _ _ _ _ _ _ us hl => match us, hl with | [_], _ => by kernel_rfl) ?_
  have R := @dfn_of P w K mg base _ _ s_law_four _ fd N_law_four _ 4 _ b_law_four _ _ F sc_law_four rfl (fun cdv A outer s H E dl hr tk hp => by
    exact (dss_cons (ds_asg (de_var 0) (dg_lst (n := 3) rfl (lenK (lenK (lenK lenN))) (dgs_cons (dg_name 1 sc_law_four.nd) (dgs_cons (dg_name 2 sc_law_four.nd) (dgs_cons (dg_name 3 sc_law_four.nd) dgs_nil))))) (dss_cons (ds_par 4 5 rfl sc_law_four.nd (des_fz (de_make (f_Family___init__ T) (hr.mono (by decide)) tk (fun _ _ _ _ _ h => h) (da_cons (de_var 0) (da_cons (de_lst (da_cons (de_tup (da_cons (de_var 1) (da_cons (de_var 2) da_nil))) (da_cons (de_tup (da_cons (de_var 1) (da_cons (de_var 3) da_nil))) (da_cons (de_tup (da_cons (de_var 2) (da_cons (de_var 3) da_nil))) da_nil)))) da_nil)))) (des_fz (de_make (f_Family___init__ T) (hr.mono (by decide)) tk (fun _ _ _ _ _ h => h) (da_cons (de_var 0) (da_cons (de_lst (da_cons (de_tup (da_cons (de_var 1) da_nil)) da_nil)) da_nil))))) (dss_one (ds_ret (de_lst (da_cons (de_tup (da_cons (de_var 4) (da_cons (de_var 4) da_nil))) (da_cons (de_tup (da_cons (de_var 4) (da_cons (de_var 5) da_nil))) (da_cons (de_tup (da_cons (de_var 5) (da_cons (de_var 5) da_nil))) (da_cons (de_tup (da_cons (de_make (f_Family___init__ T) (hr.mono (by decide)) tk (fun _ _ _ _ _ h => h) (da_cons (de_var 0) (da_cons (de_lst (da_cons (de_tup (da_cons (de_var 1) (da_cons (de_var 2) da_nil))) (da_cons (de_tup (da_cons (de_var 1) (da_cons (de_var 3) da_nil))) da_nil))) da_nil))) (da_cons (de_var 4) da_nil))) da_nil))))))))))
  exact R
theorem p_Family_machines : PropF P w K mg base "Family" "machines" 1 m_Family_machines := by
  obtain ⟨fd, F⟩ := T.c.z.y.get_ 0 (d := d_Family_machines) rfl
  refine propF_of (g_Family T) (cl_Family T) (T.c.z.y.prop_ 0 (d := d_Family_machines) rfl) rfl (F.bindsN (ps := ["self"]) fun _ _ _ _ _ _ us hl => match us, hl with | [_], _ => by kernel_rfl) ?_
  have R := @dfn_of P w K mg base _ _ s_Family_machines _ fd N_Family_machines _ 0 _ b_Family_machines _ _ F sc_Family_machines rfl (fun cdv A outer s H E dl hr tk hp => by
    exact (dss_one (ds_ret (de_fld (fld_Family_own_machines T) (de_var 0)))))
  exact R
theorem fd_Family___len__ : ∃ fd, FunD K "__len__" "Family.__len__" (defArgs s_Family___len__) (defBody s_Family___len__) (defScope s_Family___len__) [] [] (He.ma K (He.ga K "Family") "__len__") fd := T.c.z.y.d.def_ 15 (d := d_Family___len__) rfl
theorem o_Family___len__ : OpF P w K mg base "Family" "__len__" 1 0 m_Family___len__ := by
  obtain ⟨fd, F⟩ := fd_Family___len__ T
  refine opr_of (g_Family T) (cl_Family T) (x_5 T) rfl (F.bindsN (ps := ["self"]) fun _ _ _ _ _ _ us hl => match us, hl with | [_], _ => by kernel_rfl) ?_
  have R := @dfn_of P w K mg base _ _ s_Family___len__ _ fd N_Family___len__ _ 0 _ b_Family___len__ _ _ F sc_Family___len__ rfl (fun cdv A outer s H E dl hr tk hp => by
    exact (dss_one (ds_ret (de_callB cd_len rfl (n_len T) bb_len (da_cons (de_fld (fld_Family_own_least T) (de_var 0)) da_nil)))))
  exact R
theorem fd_holds : ∃ fd, FunD K "holds" "holds" (defArgs s_holds) (defBody s_holds) (defScope s_holds) [] [] (He.ga K "holds") fd := T.c.z.y.d.def_ 16 (d := d_holds) rfl
theorem f_holds : DFn P w K mg base "holds" 2 2 m_holds := by
  obtain ⟨fd, F⟩ := fd_holds T
  refine def_of (g_holds T) F.kp rfl (F.bindsN (ps := ["family", "lot"]) fun _ _ _ _ _ _ us hl => match us, hl with | [_, _], _ => by kernel_rfl) ?_
  have R := @dfn_of P w K mg base _ _ s_holds _ fd N_holds _ 1 _ b_holds _ _ F sc_holds rfl (fun cdv A outer s H E dl hr tk hp => by
    exact (dss_one (ds_ret (de_callB (cd_any rfl) rfl (n_any T) bb_any (da_cons (de_own (deo_lc (own := [("least", 2)]) rfl sc_holds.nd (dim_of (di_seq (de_fld (fld_Family_own_least T) (de_var 0)))) (blkOk_by (N := N_holds) (sc := defScope s_holds) (by decide +kernel)) (by decide) (fun _ _ _ _ _ => (dg_name 2 sc_holds.nd)) (fun _ _ _ _ _ => dts_nil) (fun _ _ _ _ _ => (de_call (f_is_inside T) (hr.mono (by decide)) takes0 (da_cons (de_var 2) (da_cons (de_var 1) da_nil)))))) da_nil)))))
  exact R
theorem fd_Family_enough : ∃ fd, FunD K "enough" "Family.enough" (defArgs s_Family_enough) (defBody s_Family_enough) (defScope s_Family_enough) [] [] (He.ma K (He.ga K "Family") "enough") fd := T.c.z.y.d.def_ 17 (d := d_Family_enough) rfl
theorem f_Family_enough : MethF P w K mg base "Family" "enough" 3 1 m_Family_enough := by
  obtain ⟨fd, F⟩ := fd_Family_enough T
  refine meth_of (g_Family T) (cl_Family T) (mt_Family_enough T) rfl (F.bindsN (ps := ["self", "lot"]) fun _ _ _ _ _ _ us hl => match us, hl with | [_, _], _ => by kernel_rfl) ?_
  have R := @dfn_of P w K mg base _ _ s_Family_enough _ fd N_Family_enough _ 2 _ b_Family_enough _ _ F sc_Family_enough rfl (fun cdv A outer s H E dl hr tk hp => by
    exact (dss_cons (ds_if (dt_not (dt_val (de_call (f_is_lot T) (hr.mono (by decide)) tk (da_cons (de_fld (fld_Family_own_machines T) (de_var 0)) (da_cons (de_var 1) da_nil))))) (dss_one (ds_raise0 (x0_BadLot T) rfl tk)) dss_nil) (dss_one (ds_ret (de_call (f_holds T) (hr.mono (by decide)) tk (da_cons (de_var 0) (da_cons (de_var 1) da_nil)))))))
  exact R
theorem fd_is_usable : ∃ fd, FunD K "is_usable" "is_usable" (defArgs s_is_usable) (defBody s_is_usable) (defScope s_is_usable) [] [] (He.ga K "is_usable") fd := T.c.z.y.d.def_ 18 (d := d_is_usable) rfl
theorem f_is_usable : DFn P w K mg base "is_usable" 4 1 m_is_usable := by
  obtain ⟨fd, F⟩ := fd_is_usable T
  refine def_of (g_is_usable T) F.kp rfl (F.bindsN (ps := ["family"]) fun _ _ _ _ _ _ us hl => match us, hl with | [_], _ => by kernel_rfl) ?_
  have R := @dfn_of P w K mg base _ _ s_is_usable _ fd N_is_usable _ 3 _ b_is_usable _ _ F sc_is_usable rfl (fun cdv A outer s H E dl hr tk hp => by
    exact (dss_one (ds_ret (de_and (de_cmp od_gt (de_callBM (cd_lenOwn (o_Family___len__ T) (hr.mono (by decide))) rfl (n_len T) bb_len (da_cons (de_var 0) da_nil)) de_int (by rfl)) (de_one (de_not (de_meth (f_Family_enough T) (hr.mono (by decide)) tk (fun _ _ _ _ _ h => h) (de_var 0) (da_cons (de_tup da_nil) da_nil))))))))
  exact R
theorem fd_are_pairs : ∃ fd, FunD K "are_pairs" "are_pairs" (defArgs s_are_pairs) (defBody s_are_pairs) (defScope s_are_pairs) [] [] (He.ga K "are_pairs") fd := T.c.z.y.d.def_ 19 (d := d_are_pairs) rfl
theorem f_are_pairs : DFn P w K mg base "are_pairs" 5 3 m_are_pairs := by
  obtain ⟨fd, F⟩ := fd_are_pairs T
  refine def_of (g_are_pairs T) F.kp rfl (F.bindsN (ps := ["machines", "thing", "most"]) fun _ _ _ _ _ _ us hl => match us, hl with | [_, _, _], _ => by kernel_rfl) ?_
  have R := @dfn_of P w K mg base _ _ s_are_pairs _ fd N_are_pairs _ 4 _ b_are_pairs _ _ F sc_are_pairs rfl (fun cdv A outer s H E dl hr tk hp => by
    exact (dss_cons (ds_if (dt_w (dw_or (dt_not (dt_val (de_call (f_is_list T) (hr.mono (by decide)) tk (da_cons (de_var 1) da_nil)))) (dw_or1 (dt_not (dt_chain od_le od_le de_int (de_callB cd_len rfl (n_len T) bb_len (da_cons (de_var 1) da_nil)) (de_var 2)))))) (dss_one (ds_ret de_bl)) dss_nil) (dss_cons (ds_for hp rfl (di_seq (de_var 1)) (dg_name 3 sc_are_pairs.nd) (dss_cons (ds_if (dt_w (dw_or (dt_not (dt_val (de_isi rfl (n_isinstance T) (pe_bltn (v := .ty "tuple") rfl (n_tuple T) bb_tuple rfl) (.ty _) no_cls (kits_ok (x_2 T)) (de_var 3)))) (dw_or1 (dt_cmp (od_ne (hu64 hr)) (de_callB cd_len rfl (n_len T) bb_len (da_cons (de_var 3) da_nil)) de_int (by rfl))))) (dss_one (ds_ret de_bl)) dss_nil) (dss_one (ds_if (dt_not (dt_val (de_callB (cd_all rfl) rfl (n_all T) bb_all (da_cons (de_own (deo_lc (own := [("one", 4)]) rfl sc_are_pairs.nd (dim_of (di_seq (de_var 3))) (blkOk_by (N := N_are_pairs) (sc := defScope s_are_pairs) (by decide +kernel)) (by decide) (fun _ _ _ _ _ => (dg_name 4 sc_are_pairs.nd)) (fun _ _ _ _ _ => dts_nil) (fun _ _ _ _ _ => (de_and (de_isi rfl (n_isinstance T) (pe_glob (v := .ref (He.ga K "Family")) rfl (g_Family T) rfl) (.own _) (one_cls (isi_ok (g_Family T) (cl_Family T) (x_4 T)) no_cls) (kits_ok (x_3 T)) (de_var 4)) (de_and (de_cmp (od_eq (hu64 hr)) (de_prop (p_Family_machines T) (hr.mono (by decide)) (de_var 4)) (de_var 0) (by rfl)) (de_one (de_call (f_is_usable T) (hr.mono (by decide)) takes0 (da_cons (de_var 4) da_nil)))))))) da_nil)))) (dss_one (ds_ret de_bl)) dss_nil)))) (dss_one (ds_ret de_bl)))))
  exact R
theorem fd_need_pairs : ∃ fd, FunD K "need_pairs" "need_pairs" (defArgs s_need_pairs) (defBody s_need_pairs) (defScope s_need_pairs) [] [] (He.ga K "need_pairs") fd := T.c.z.y.d.def_ 20 (d := d_need_pairs) rfl
theorem f_need_pairs : DFn P w K mg base "need_pairs" 6 1 m_need_pairs := by
  obtain ⟨fd, F⟩ := fd_need_pairs T
  refine def_of (g_need_pairs T) F.kp rfl (F.bindsN (ps := ["thing"]) fun _ _ _ _ _ _ us hl => match us, hl with | [_], _ => by kernel_rfl) ?_
  have R := @dfn_of P w K mg base _ _ s_need_pairs _ fd N_need_pairs _ 5 _ b_need_pairs _ _ F sc_need_pairs rfl (fun cdv A outer s H E dl hr tk hp => by
    exact (dss_cons (ds_if (dt_w (dw_or (dt_not (dt_val (de_call (f_is_list T) (hr.mono (by decide)) tk (da_cons (de_var 0) da_nil)))) (dw_or (dt_cmp (od_eq (hu64 hr)) (de_callB cd_len rfl (n_len T) bb_len (da_cons (de_var 0) da_nil)) de_int (by rfl)) (dw_or (dt_not (dt_val (de_isi rfl (n_isinstance T) (pe_bltn (v := .ty "tuple") rfl (n_tuple T) bb_tuple rfl) (.ty _) no_cls (kits_ok (x_2 T)) (de_sub (de_var 0) de_int)))) (dw_or1 (dt_cmp (od_ne (hu64 hr)) (de_callB cd_len rfl (n_len T) bb_len (da_cons (de_sub (de_var 0) de_int) da_nil)) de_int (by rfl))))))) (dss_one (ds_raise1 (k := 0) (x1_BadStages T) rfl (hr.mono (by decide)) tk de_str)) dss_nil) (dss_cons (ds_if (dt_w (dw_or (dt_not (dt_val (de_isi rfl (n_isinstance T) (pe_glob (v := .ref (He.ga K "Family")) rfl (g_Family T) rfl) (.own _) (one_cls (isi_ok (g_Family T) (cl_Family T) (x_4 T)) no_cls) (kits_ok (x_3 T)) (de_sub (de_sub (de_var 0) de_int) de_int)))) (dw_or1 (dt_not (dt_val (de_call (f_are_pairs T) (hr.mono (by decide)) tk (da_cons (de_prop (p_Family_machines T) (hr.mono (by decide)) (de_sub (de_sub (de_var 0) de_int) de_int)) (da_cons (de_var 0) (da_cons (de_gint rfl (c_MOST_FAMILIES T).choose_spec) da_nil))))))))) (dss_one (ds_raise1 (k := 0) (x1_BadStages T) rfl (hr.mono (by decide)) tk de_str)) dss_nil) (dss_one (ds_ret (de_callTy cd_tuple rfl (n_tuple T) bb_tuple (da_cons (de_var 0) da_nil)))))))
  exact R
theorem fd_is_number : ∃ fd, FunD K "is_number" "is_number" (defArgs s_is_number) (defBody s_is_number) (defScope s_is_number) [] [] (He.ga K "is_number") fd := T.c.z.y.d.def_ 21 (d := d_is_number) rfl
theorem f_is_number : DFn P w K mg base "is_number" 1 1 m_is_number := by
  obtain ⟨fd, F⟩ := fd_is_number T
  refine def_of (g_is_number T) F.kp rfl (F.bindsN (ps := ["thing"]) fun _ _ _ _ _ _ us hl => match us, hl with | [_], _ => by kernel_rfl) ?_
  have R := @dfn_of P w K mg base _ _ s_is_number _ fd N_is_number _ 0 _ b_is_number _ _ F sc_is_number rfl (fun cdv A outer s H E dl hr tk hp => by
    exact (dss_one (ds_ret (de_and (de_isi rfl (n_isinstance T) (pe_bltn (v := .ty "int") rfl (n_int T) bb_int rfl) (.ty _) no_cls (kits_ok (x_6 T)) (de_var 0)) (de_one (de_not (de_isi rfl (n_isinstance T) (pe_bltn (v := .ty "bool") rfl (n_bool T) bb_bool rfl) (.ty _) no_cls (kits_ok (x_7 T)) (de_var 0))))))))
  exact R
theorem fd_rows_of : ∃ fd, FunD K "rows_of" "rows_of" (defArgs s_rows_of) (defBody s_rows_of) (defScope s_rows_of) [] [] (He.ga K "rows_of") fd := T.c.z.y.d.def_ 22 (d := d_rows_of) rfl
theorem f_rows_of : DFn P w K mg base "rows_of" 1 4 m_rows_of := by
  obtain ⟨fd, F⟩ := fd_rows_of T
  refine def_of (g_rows_of T) F.kp rfl (F.bindsN (ps := ["many", "first", "last", "length"]) fun _ _ _ _ _ _ us hl => match us, hl with | [_, _, _, _], _ => by kernel_rfl) ?_
  have R := @dfn_of P w K mg base _ _ s_rows_of _ fd N_rows_of _ 0 _ b_rows_of _ _ F sc_rows_of rfl (fun cdv A outer s H E dl hr tk hp => by
    exact (dss_cons (ds_set 4 sc_rows_of.nd (de_lst (da_cons (de_tup (da_cons (de_var 1) da_nil)) da_nil))) (dss_cons (ds_for hp rfl (di_range1 rfl (n_range T) (da_cons (de_bin od_sub (de_var 3) de_int) da_nil)) (dg_name 5 sc_rows_of.nd) (dss_one (ds_lc2 (own := [("row", 6), ("index", 7)]) (vs1 := [7]) 4 rfl sc_rows_of.nd rfl rfl (sw_true rfl rfl rfl (by decide +kernel)) (dim_of (di_seq (de_var 4))) (blkOk_by (N := N_rows_of) (sc := defScope s_rows_of) (by decide +kernel)) (by decide) (by decide) (by decide) (fun _ _ _ _ _ => (dg_name 6 sc_rows_of.nd)) (fun _ _ _ _ _ => dts_nil) (fun _ _ _ _ _ => (di_range1 rfl (n_range T) (da_cons (de_var 0) da_nil))) (fun _ _ _ _ _ => (dg_name 7 sc_rows_of.nd)) (fun _ _ _ _ _ => dts_nil) (fun _ _ _ _ _ => (de_tup (da_star (de_var 6) (da_cons (de_var 7) da_nil))))))) (dss_one (ds_ret (de_own (deo_lc (own := [("row", 6)]) rfl sc_rows_of.nd (dim_of (di_seq (de_var 4))) (blkOk_by (N := N_rows_of) (sc := defScope s_rows_of) (by decide +kernel)) (by decide) (fun _ _ _ _ _ => (dg_name 6 sc_rows_of.nd)) (fun _ _ _ _ _ => (dts_one (dt_cmp (od_eq (hu64 hr)) (de_sub (de_var 6) (de_un ud_neg de_int)) (de_var 2) (by rfl)))) (fun _ _ _ _ _ => (de_var 6)))))))))
  exact R
theorem fd_beginnings : ∃ fd, FunD K "beginnings" "beginnings" (defArgs s_beginnings) (defBody s_beginnings) (defScope s_beginnings) [] [] (He.ga K "beginnings") fd := T.c.z.y.d.def_ 23 (d := d_beginnings) rfl
theorem f_beginnings : DFn P w K mg base "beginnings" 1 2 m_beginnings := by
  obtain ⟨fd, F⟩ := fd_beginnings T
  refine def_of (g_beginnings T) F.kp rfl (F.bindsN (ps := ["settled", "many"]) fun _ _ _ _ _ _ us hl => match us, hl with | [_, _], _ => by kernel_rfl) ?_
  have R := @dfn_of P w K mg base _ _ s_beginnings _ fd N_beginnings _ 0 _ b_beginnings _ _ F sc_beginnings rfl (fun cdv A outer s H E dl hr tk hp => by
    exact (dss_one (ds_ret (de_own (deo_lc (own := [("i", 2)]) rfl sc_beginnings.nd (dim_of (di_range1 rfl (n_range T) (da_cons (de_var 1) da_nil))) (blkOk_by (N := N_beginnings) (sc := defScope s_beginnings) (by decide +kernel)) (by decide) (fun _ _ _ _ _ => (dg_name 2 sc_beginnings.nd)) (fun _ _ _ _ _ => (dts_one (dt_not (dt_val (de_callB (cd_any rfl) rfl (n_any T) bb_any (da_cons (de_own (deo_lc (own := [("s", 3)]) rfl sc_beginnings.nd (dim_of (di_seq (de_var 0))) (blkOk_by (N := N_beginnings) (by kernel_rfl)) (by decide) (fun _ _ _ _ _ => (dg_name 3 sc_beginnings.nd)) (fun _ _ _ _ _ => dts_nil) (fun _ _ _ _ _ => (de_cmp od_ltI (de_var 3) (de_var 2) (by rfl))))) da_nil)))))) (fun _ _ _ _ _ => (de_var 2)))))))
  exact R
theorem p_Family_least : PropF P w K mg base "Family" "least" 1 m_Family_least := by
  obtain ⟨fd, F⟩ := T.c.z.y.get_ 1 (d := d_Family_least) rfl
  refine propF_of (g_Family T) (cl_Family T) (T.c.z.y.prop_ 1 (d := d_Family_least) rfl) rfl (F.bindsN (ps := ["self"]) fun _ _ _ _ _ _ us hl => match us, hl with | [_], _ => by kernel_rfl) ?_
  have R := @dfn_of P w K mg base _ _ s_Family_least _ fd N_Family_least _ 0 _ b_Family_least _ _ F sc_Family_least rfl (fun cdv A outer s H E dl hr tk hp => by
    exact (dss_one (ds_ret (de_callTy cd_list rfl (n_list T) bb_list (da_cons (de_fld (fld_Family_own_least T) (de_var 0)) da_nil)))))
  exact R
theorem fd_triples : ∃ fd, FunD K "triples" "triples" (defArgs s_triples) (defBody s_triples) (defScope s_triples) [] [] (He.ga K "triples") fd := T.c.z.y.d.def_ 24 (d := d_triples) rfl
theorem f_triples : DFn P w K mg base "triples" 3 2 m_triples := by
  obtain ⟨fd, F⟩ := fd_triples T
  refine def_of (g_triples T) F.kp rfl (F.bindsN (ps := ["pairs", "settled"]) fun _ _ _ _ _ _ us hl => match us, hl with | [_, _], _ => by kernel_rfl) ?_
  have R := @dfn_of P w K mg base _ _ s_triples _ fd N_triples _ 2 _ b_triples _ _ F sc_triples rfl (fun cdv A outer s H E dl hr tk hp => by
    exact (dss_cons (ds_own 2 sc_triples.nd (deo_lstD da_nil)) (dss_cons (ds_for hp rfl (di_seq (de_call (f_beginnings T) (hr.mono (by decide)) tk (da_cons (de_var 1) (da_cons (de_callB cd_len rfl (n_len T) bb_len (da_cons (de_var 0) da_nil)) da_nil)))) (dg_name 3 sc_triples.nd) (dss_one (ds_for hp rfl (di_range2 rfl (n_range T) (da_cons (de_var 3) (da_cons (de_callB cd_len rfl (n_len T) bb_len (da_cons (de_var 0) da_nil)) da_nil))) (dg_name 4 sc_triples.nd) (dss_one (ds_extend 2 (de_own (deo_lc (own := [("lot", 5)]) rfl sc_triples.nd (dim_of (di_seq (de_prop (p_Family_least T) (hr.mono (by decide)) (de_sub (de_sub (de_var 0) (de_var 4)) de_int)))) (blkOk_by (N := N_triples) (sc := defScope s_triples) (by decide +kernel)) (by decide) (fun _ _ _ _ _ => (dg_name 5 sc_triples.nd)) (fun _ _ _ _ _ => dts_nil) (fun _ _ _ _ _ => (de_tup (da_cons (de_var 3) (da_cons (de_var 4) (da_cons (de_var 5) da_nil)))))))))))) (dss_frz 2 (dss_one (ds_ret (de_var 2)))))))
  exact R
theorem fd_between : ∃ fd, FunD K "between" "between" (defArgs s_between) (defBody s_between) (defScope s_between) [] [] (He.ga K "between") fd := T.c.z.y.d.def_ 25 (d := d_between) rfl
theorem f_between : DFn P w K mg base "between" 1 3 m_between := by
  obtain ⟨fd, F⟩ := fd_between T
  refine def_of (g_between T) F.kp rfl (F.bindsN (ps := ["settled", "i", "j"]) fun _ _ _ _ _ _ us hl => match us, hl with | [_, _, _], _ => by kernel_rfl) ?_
  have R := @dfn_of P w K mg base _ _ s_between _ fd N_between _ 0 _ b_between _ _ F sc_between rfl (fun cdv A outer s H E dl hr tk hp => by
    exact (dss_one (ds_ret (de_lst (da_cons (de_var 1) (da_star (de_own (deo_lc (own := [("s", 3)]) rfl sc_between.nd (dim_of (di_seq (de_var 0))) (blkOk_by (N := N_between) (sc := defScope s_between) (by decide +kernel)) (by decide) (fun _ _ _ _ _ => (dg_name 3 sc_between.nd)) (fun _ _ _ _ _ => (dts_one (dt_chain od_ltI od_ltI (de_var 1) (de_var 3) (de_var 2)))) (fun _ _ _ _ _ => (de_var 3)))) da_nil))))))
  exact R
theorem fd_do_miss : ∃ fd, FunD K "do_miss" "do_miss" (defArgs s_do_miss) (defBody s_do_miss) (defScope s_do_miss) [] [] (He.ga K "do_miss") fd := T.c.z.y.d.def_ 26 (d := d_do_miss) rfl
theorem f_do_miss : DFn P w K mg base "do_miss" 1 2 m_do_miss := by
  obtain ⟨fd, F⟩ := fd_do_miss T
  refine def_of (g_do_miss T) F.kp rfl (F.bindsN (ps := ["one", "other"]) fun _ _ _ _ _ _ us hl => match us, hl with | [_, _], _ => by kernel_rfl) ?_
  have R := @dfn_of P w K mg base _ _ s_do_miss _ fd N_do_miss _ 0 _ b_do_miss _ _ F sc_do_miss rfl (fun cdv A outer s H E dl hr tk hp => by
    exact (dss_one (ds_ret (de_not (de_callB (cd_any rfl) rfl (n_any T) bb_any (da_cons (de_own (deo_lc (own := [("name", 2)]) rfl sc_do_miss.nd (dim_of (di_seq (de_var 0))) (blkOk_by (N := N_do_miss) (sc := defScope s_do_miss) (by decide +kernel)) (by decide) (fun _ _ _ _ _ => (dg_name 2 sc_do_miss.nd)) (fun _ _ _ _ _ => dts_nil) (fun _ _ _ _ _ => (de_cmp od_in (de_var 2) (de_var 1) (by rfl))))) da_nil))))))
  exact R
theorem fd_missing_lot : ∃ fd, FunD K "missing_lot" "missing_lot" (defArgs s_missing_lot) (defBody s_missing_lot) (defScope s_missing_lot) [] [] (He.ga K "missing_lot") fd := T.c.z.y.d.def_ 27 (d := d_missing_lot) rfl
theorem f_missing_lot : DFn P w K mg base "missing_lot" 3 2 m_missing_lot := by
  obtain ⟨fd, F⟩ := fd_missing_lot T
  refine def_of (g_missing_lot T) F.kp rfl (F.bindsN (ps := ["family", "lot"]) fun _ _ _ _ _ _ us hl => match us, hl with | [_, _], _ => by kernel_rfl) ?_
  have R := @dfn_of P w K mg base _ _ s_missing_lot _ fd N_missing_lot _ 2 _ b_missing_lot _ _ F sc_missing_lot rfl (fun cdv A outer s H E dl hr tk hp => by
    exact (dss_cons (ds_lc (own := [("one", 3)]) 2 rfl sc_missing_lot.nd rfl rfl (sw_true rfl rfl rfl (by decide +kernel)) (dim_of (di_seq (de_prop (p_Family_least T) (hr.mono (by decide)) (de_var 0)))) (blkOk_by (N := N_missing_lot) (sc := defScope s_missing_lot) (by decide +kernel)) (by decide) (fun _ _ _ _ _ => (dg_name 3 sc_missing_lot.nd)) (fun _ _ _ _ _ => (dts_one (dt_val (de_call (f_do_miss T) (hr.mono (by decide)) takes0 (da_cons (de_var 3) (da_cons (de_var 1) da_nil)))))) (fun _ _ _ _ _ => (de_var 3))) (dss_one (ds_ret (de_ifExp (dt_cmp (od_ne (hu64 hr)) (de_var 2) (de_lst da_nil) (by rfl)) (de_sub (de_var 2) de_int) de_non)))))
  exact R
theorem fd_lots_past : ∃ fd, FunD K "lots_past" "lots_past" (defArgs s_lots_past) (defBody s_lots_past) (defScope s_lots_past) [] [] (He.ga K "lots_past") fd := T.c.z.y.d.def_ 28 (d := d_lots_past) rfl
theorem f_lots_past : DFn P w K mg base "lots_past" 4 3 m_lots_past := by
  obtain ⟨fd, F⟩ := fd_lots_past T
  refine def_of (g_lots_past T) F.kp rfl (F.bindsN (ps := ["pairs", "settled", "triple"]) fun _ _ _ _ _ _ us hl => match us, hl with | [_, _, _], _ => by kernel_rfl) ?_
  have R := @dfn_of P w K mg base _ _ s_lots_past _ fd N_lots_past _ 3 _ b_lots_past _ _ F sc_lots_past rfl (fun cdv A outer s H E dl hr tk hp => by
    exact (dss_cons (ds_asg (de_var 2) (dg_tup (n := 3) rfl (lenK (lenK (lenK lenN))) (dgs_cons (dg_name 3 sc_lots_past.nd) (dgs_cons (dg_name 4 sc_lots_past.nd) (dgs_cons (dg_name 5 sc_lots_past.nd) dgs_nil))))) (dss_cons (ds_dc (own := [("s", 7)]) 6 rfl sc_lots_past.nd rfl rfl (sw_trueD rfl rfl rfl (by decide +kernel)) (dim_of (di_seq (de_call (f_between T) (hr.mono (by decide)) tk (da_cons (de_var 1) (da_cons (de_var 3) (da_cons (de_var 4) da_nil)))))) (blkOk_by (N := N_lots_past) (sc := defScope s_lots_past) (by decide +kernel)) (by decide) (fun _ _ _ _ _ => (dg_name 7 sc_lots_past.nd)) (fun _ _ _ _ _ => dts_nil) (fun _ _ _ _ _ => (de_var 7)) (fun _ _ _ _ _ => (de_call (f_missing_lot T) (hr.mono (by decide)) takes0 (da_cons (de_sub (de_sub (de_var 0) (de_var 7)) de_int) (da_cons (de_var 5) da_nil))))) (dss_one (ds_ret (de_ifExp (dt_cmp (od_inX (hu65 hr)) de_non (de_own (deo_vals rfl (de_var 6) rfl (n_list T))) (by rfl)) de_non (de_var 6)))))))
  exact R
theorem fd_gap_in : ∃ fd, FunD K "gap_in" "gap_in" (defArgs s_gap_in) (defBody s_gap_in) (defScope s_gap_in) [] [] (He.ga K "gap_in") fd := T.c.z.y.d.def_ 29 (d := d_gap_in) rfl
theorem f_gap_in : DFn P w K mg base "gap_in" 5 2 m_gap_in := by
  obtain ⟨fd, F⟩ := fd_gap_in T
  refine def_of (g_gap_in T) F.kp rfl (F.bindsN (ps := ["pairs", "settled"]) fun _ _ _ _ _ _ us hl => match us, hl with | [_, _], _ => by kernel_rfl) ?_
  have R := @dfn_of P w K mg base _ _ s_gap_in _ fd N_gap_in _ 4 _ b_gap_in _ _ F sc_gap_in rfl (fun cdv A outer s H E dl hr tk hp => by
    exact (dss_cons (ds_for hp rfl (di_seq (de_call (f_triples T) (hr.mono (by decide)) tk (da_cons (de_var 0) (da_cons (de_var 1) da_nil)))) (dg_name 2 sc_gap_in.nd) (dss_cons (ds_set 3 sc_gap_in.nd (de_call (f_lots_past T) (hr.mono (by decide)) tk (da_cons (de_var 0) (da_cons (de_var 1) (da_cons (de_var 2) da_nil))))) (dss_one (ds_if (dt_cmp od_notN (de_var 3) de_non (by rfl)) (dss_one (ds_ret (de_tup (da_star (de_var 2) (da_cons (de_var 3) da_nil))))) dss_nil)))) (dss_one (ds_ret de_non))))
  exact R
theorem fd_is_right_row : ∃ fd, FunD K "is_right_row" "is_right_row" (defArgs s_is_right_row) (defBody s_is_right_row) (defScope s_is_right_row) [] [] (He.ga K "is_right_row") fd := T.c.z.y.d.def_ 30 (d := d_is_right_row) rfl
theorem f_is_right_row : DFn P w K mg base "is_right_row" 6 2 m_is_right_row := by
  obtain ⟨fd, F⟩ := fd_is_right_row T
  refine def_of (g_is_right_row T) F.kp rfl (F.bindsN (ps := ["pairs", "row"]) fun _ _ _ _ _ _ us hl => match us, hl with | [_, _], _ => by kernel_rfl) ?_
  have R := @dfn_of P w K mg base _ _ s_is_right_row _ fd N_is_right_row _ 5 _ b_is_right_row _ _ F sc_is_right_row rfl (fun cdv A outer s H E dl hr tk hp => by
    exact (dss_cons (ds_lc (own := [("index", 3)]) 2 rfl sc_is_right_row.nd rfl rfl (sw_true rfl rfl rfl (by decide +kernel)) (dim_of (di_seq (de_var 1))) (blkOk_by (N := N_is_right_row) (sc := defScope s_is_right_row) (by decide +kernel)) (by decide) (fun _ _ _ _ _ => (dg_name 3 sc_is_right_row.nd)) (fun _ _ _ _ _ => dts_nil) (fun _ _ _ _ _ => (de_sub (de_var 0) (de_var 3)))) (dss_one (ds_ret (de_cmp od_isN (de_call (f_gap_in T) (hr.mono (by decide)) tk (da_cons (de_var 2) (da_cons (de_tupRng1 rfl rfl (n_tuple T) rfl (n_range T) (de_bin od_sub (de_callB cd_len rfl (n_len T) bb_len (da_cons (de_var 1) da_nil)) de_int)) da_nil))) de_non (by rfl))))))
  exact R
theorem fd_rows_between : ∃ fd, FunD K "rows_between" "rows_between" (defArgs s_rows_between) (defBody s_rows_between) (defScope s_rows_between) [] [] (He.ga K "rows_between") fd := T.c.z.y.d.def_ 31 (d := d_rows_between) rfl
theorem f_rows_between : DFn P w K mg base "rows_between" 7 4 m_rows_between := by
  obtain ⟨fd, F⟩ := fd_rows_between T
  refine def_of (g_rows_between T) F.kp rfl (F.bindsN (ps := ["families", "first", "last", "most"]) fun _ _ _ _ _ _ us hl => match us, hl with | [_, _, _, _], _ => by kernel_rfl) ?_
  have R := @dfn_of P w K mg base _ _ s_rows_between _ fd N_rows_between _ 6 _ b_rows_between _ _ F sc_rows_between rfl (fun cdv A outer s H E dl hr tk hp => by
    exact (dss_cons (ds_set 4 sc_rows_between.nd (de_call (f_need_pairs T) (hr.mono (by decide)) tk (da_cons (de_var 0) da_nil))) (dss_cons (ds_for hp rfl (di_seq (de_tup (da_cons (de_var 1) (da_cons (de_var 2) da_nil)))) (dg_name 5 sc_rows_between.nd) (dss_one (ds_if (dt_w (dw_or (dt_not (dt_val (de_call (f_is_number T) (hr.mono (by decide)) tk (da_cons (de_var 5) da_nil)))) (dw_or1 (dt_not (dt_chain od_le od_ltI de_int (de_var 5) (de_callB cd_len rfl (n_len T) bb_len (da_cons (de_var 4) da_nil))))))) (dss_one (ds_raise1 (k := 0) (x1_BadIndex T) rfl (hr.mono (by decide)) tk (de_var 5))) dss_nil))) (dss_cons (ds_if (dt_w (dw_or (dt_not (dt_val (de_call (f_is_number T) (hr.mono (by decide)) tk (da_cons (de_var 3) da_nil)))) (dw_or1 (dt_not (dt_chain od_le od_le de_int (de_var 3) (de_gint rfl (c_MOST_STAGES T).choose_spec)))))) (dss_one (ds_raise1 (k := 0) (x1_BadCount T) rfl (hr.mono (by decide)) tk (de_var 3))) dss_nil) (dss_cons (ds_for hp rfl (di_range2 rfl (n_range T) (da_cons de_int (da_cons (de_bin od_add (de_var 3) de_int) da_nil))) (dg_name 6 sc_rows_between.nd) (dss_cons (ds_lc (own := [("row", 8)]) 7 rfl sc_rows_between.nd rfl rfl (sw_true rfl rfl rfl (by decide +kernel)) (dim_of (di_seq (de_call (f_rows_of T) (hr.mono (by decide)) tk (da_cons (de_callB cd_len rfl (n_len T) bb_len (da_cons (de_var 4) da_nil)) (da_cons (de_var 1) (da_cons (de_var 2) (da_cons (de_var 6) da_nil))))))) (blkOk_by (N := N_rows_between) (sc := defScope s_rows_between) (by decide +kernel)) (by decide) (fun _ _ _ _ _ => (dg_name 8 sc_rows_between.nd)) (fun _ _ _ _ _ => (dts_one (dt_val (de_call (f_is_right_row T) (hr.mono (by decide)) takes0 (da_cons (de_var 4) (da_cons (de_var 8) da_nil)))))) (fun _ _ _ _ _ => (de_var 8))) (dss_one (ds_if (dt_cmp (od_ne (hu64 hr)) (de_var 7) (de_lst da_nil) (by rfl)) (dss_one (ds_ret (de_var 7))) dss_nil)))) (dss_one (ds_ret (de_lst da_nil))))))))
  exact R
theorem fK0_most_last_first_families_rows_between : DFnK P w K mg base "rows_between" 7 0 ["most", "last", "first", "families"] [3, 2, 1, 0] 4 m_rows_between := by
  obtain ⟨fd, F⟩ := fd_rows_between T
  have R := @dfn_of P w K mg base _ _ s_rows_between _ fd N_rows_between _ 6 _ b_rows_between _ _ F sc_rows_between rfl (fun cdv A outer s H E dl hr tk hp => by
    exact (dss_cons (ds_set 4 sc_rows_between.nd (de_call (f_need_pairs T) (hr.mono (by decide)) tk (da_cons (de_var 0) da_nil))) (dss_cons (ds_for hp rfl (di_seq (de_tup (da_cons (de_var 1) (da_cons (de_var 2) da_nil)))) (dg_name 5 sc_rows_between.nd) (dss_one (ds_if (dt_w (dw_or (dt_not (dt_val (de_call (f_is_number T) (hr.mono (by decide)) tk (da_cons (de_var 5) da_nil)))) (dw_or1 (dt_not (dt_chain od_le od_ltI de_int (de_var 5) (de_callB cd_len rfl (n_len T) bb_len (da_cons (de_var 4) da_nil))))))) (dss_one (ds_raise1 (k := 0) (x1_BadIndex T) rfl (hr.mono (by decide)) tk (de_var 5))) dss_nil))) (dss_cons (ds_if (dt_w (dw_or (dt_not (dt_val (de_call (f_is_number T) (hr.mono (by decide)) tk (da_cons (de_var 3) da_nil)))) (dw_or1 (dt_not (dt_chain od_le od_le de_int (de_var 3) (de_gint rfl (c_MOST_STAGES T).choose_spec)))))) (dss_one (ds_raise1 (k := 0) (x1_BadCount T) rfl (hr.mono (by decide)) tk (de_var 3))) dss_nil) (dss_cons (ds_for hp rfl (di_range2 rfl (n_range T) (da_cons de_int (da_cons (de_bin od_add (de_var 3) de_int) da_nil))) (dg_name 6 sc_rows_between.nd) (dss_cons (ds_lc (own := [("row", 8)]) 7 rfl sc_rows_between.nd rfl rfl (sw_true rfl rfl rfl (by decide +kernel)) (dim_of (di_seq (de_call (f_rows_of T) (hr.mono (by decide)) tk (da_cons (de_callB cd_len rfl (n_len T) bb_len (da_cons (de_var 4) da_nil)) (da_cons (de_var 1) (da_cons (de_var 2) (da_cons (de_var 6) da_nil))))))) (blkOk_by (N := N_rows_between) (sc := defScope s_rows_between) (by decide +kernel)) (by decide) (fun _ _ _ _ _ => (dg_name 8 sc_rows_between.nd)) (fun _ _ _ _ _ => (dts_one (dt_val (de_call (f_is_right_row T) (hr.mono (by decide)) takes0 (da_cons (de_var 4) (da_cons (de_var 8) da_nil)))))) (fun _ _ _ _ _ => (de_var 8))) (dss_one (ds_if (dt_cmp (od_ne (hu64 hr)) (de_var 7) (de_lst da_nil) (by rfl)) (dss_one (ds_ret (de_var 7))) dss_nil)))) (dss_one (ds_ret (de_lst da_nil))))))))
  exact ⟨_, fd, ["families", "first", "last", "most"], g_rows_between T, F.kp, rfl, kbn_of F (fun _ _ _ _ _ _ us ws l1 l2 => match us, ws, l1, l2 with | [], [_, _, _, _], _, _ => by kernel_rfl), R⟩
theorem fd_steps_between : ∃ fd, FunD K "steps_between" "steps_between" (defArgs s_steps_between) (defBody s_steps_between) (defScope s_steps_between) [] [] (He.ga K "steps_between") fd := T.c.z.y.d.def_ 32 (d := d_steps_between) rfl
theorem f_steps_between : DFn P w K mg base "steps_between" 7 1 m_steps_between := by
  obtain ⟨fd, F⟩ := fd_steps_between T
  refine def_of (g_steps_between T) F.kp rfl (F.bindsN (ps := ["families"]) fun _ _ _ _ _ _ us hl => match us, hl with | [_], _ => by kernel_rfl) ?_
  have R := @dfn_of P w K mg base _ _ s_steps_between _ fd N_steps_between _ 6 _ b_steps_between _ _ F sc_steps_between rfl (fun cdv A outer s H E dl hr tk hp => by
    exact (dss_cons (ds_set 1 sc_steps_between.nd (de_call (f_need_pairs T) (hr.mono (by decide)) tk (da_cons (de_var 0) da_nil))) (dss_cons (ds_lc2 (own := [("a", 3), ("b", 4)]) (vs1 := [4]) 2 rfl sc_steps_between.nd rfl rfl (sw_true rfl rfl rfl (by decide +kernel)) (dim_of (di_range1 rfl (n_range T) (da_cons (de_callB cd_len rfl (n_len T) bb_len (da_cons (de_var 1) da_nil)) da_nil))) (blkOk_by (N := N_steps_between) (sc := defScope s_steps_between) (by decide +kernel)) (by decide) (by decide) (by decide) (fun _ _ _ _ _ => (dg_name 3 sc_steps_between.nd)) (fun _ _ _ _ _ => dts_nil) (fun _ _ _ _ _ => (di_range1 rfl (n_range T) (da_cons (de_callB cd_len rfl (n_len T) bb_len (da_cons (de_var 1) da_nil)) da_nil))) (fun _ _ _ _ _ => (dg_name 4 sc_steps_between.nd)) (fun _ _ _ _ _ => dts_nil) (fun _ _ _ _ _ => (de_tup (da_cons (de_var 3) (da_cons (de_var 4) da_nil))))) (dss_one (ds_ret (de_own (deo_lc (own := [("pair", 5)]) rfl sc_steps_between.nd (dim_of (di_seq (de_var 2))) (blkOk_by (N := N_steps_between) (sc := defScope s_steps_between) (by decide +kernel)) (by decide) (fun _ _ _ _ _ => (dg_name 5 sc_steps_between.nd)) (fun _ _ _ _ _ => (dts_one (dt_val (de_call (f_is_right_row T) (hr.mono (by decide)) takes0 (da_cons (de_var 1) (da_cons (de_var 5) da_nil)))))) (fun _ _ _ _ _ => (de_var 5)))))))))
  exact R
theorem fK0_families_steps_between : DFnK P w K mg base "steps_between" 7 0 ["families"] [0] 1 m_steps_between := by
  obtain ⟨fd, F⟩ := fd_steps_between T
  have R := @dfn_of P w K mg base _ _ s_steps_between _ fd N_steps_between _ 6 _ b_steps_between _ _ F sc_steps_between rfl (fun cdv A outer s H E dl hr tk hp => by
    exact (dss_cons (ds_set 1 sc_steps_between.nd (de_call (f_need_pairs T) (hr.mono (by decide)) tk (da_cons (de_var 0) da_nil))) (dss_cons (ds_lc2 (own := [("a", 3), ("b", 4)]) (vs1 := [4]) 2 rfl sc_steps_between.nd rfl rfl (sw_true rfl rfl rfl (by decide +kernel)) (dim_of (di_range1 rfl (n_range T) (da_cons (de_callB cd_len rfl (n_len T) bb_len (da_cons (de_var 1) da_nil)) da_nil))) (blkOk_by (N := N_steps_between) (sc := defScope s_steps_between) (by decide +kernel)) (by decide) (by decide) (by decide) (fun _ _ _ _ _ => (dg_name 3 sc_steps_between.nd)) (fun _ _ _ _ _ => dts_nil) (fun _ _ _ _ _ => (di_range1 rfl (n_range T) (da_cons (de_callB cd_len rfl (n_len T) bb_len (da_cons (de_var 1) da_nil)) da_nil))) (fun _ _ _ _ _ => (dg_name 4 sc_steps_between.nd)) (fun _ _ _ _ _ => dts_nil) (fun _ _ _ _ _ => (de_tup (da_cons (de_var 3) (da_cons (de_var 4) da_nil))))) (dss_one (ds_ret (de_own (deo_lc (own := [("pair", 5)]) rfl sc_steps_between.nd (dim_of (di_seq (de_var 2))) (blkOk_by (N := N_steps_between) (sc := defScope s_steps_between) (by decide +kernel)) (by decide) (fun _ _ _ _ _ => (dg_name 5 sc_steps_between.nd)) (fun _ _ _ _ _ => (dts_one (dt_val (de_call (f_is_right_row T) (hr.mono (by decide)) takes0 (da_cons (de_var 1) (da_cons (de_var 5) da_nil)))))) (fun _ _ _ _ _ => (de_var 5)))))))))
  exact ⟨_, fd, ["families"], g_steps_between T, F.kp, rfl, kbn_of F (fun _ _ _ _ _ _ us ws l1 l2 => match us, ws, l1, l2 with | [], [_], _, _ => by kernel_rfl), R⟩
theorem fd_law_rows_right : ∃ fd, FunD K "_law_rows_right" "_law_rows_right" (defArgs s_law_rows_right) (defBody s_law_rows_right) (defScope s_law_rows_right) [] [] (He.ga K "_law_rows_right") fd := T.c.z.y.d.def_ 33 (d := d_law_rows_right) rfl
theorem f_law_rows_right : DFn P w K mg base "_law_rows_right" 8 1 m_law_rows_right := by
  obtain ⟨fd, F⟩ := fd_law_rows_right T
  refine def_of (g__law_rows_right T) F.kp rfl (F.bindsN (ps := ["_law_names"]) fun _ _ _ _ _ _ us hl => match us, hl with | [_], _ => by kernel_rfl) ?_
  have R := @dfn_of P w K mg base _ _ s_law_rows_right _ fd N_law_rows_right _ 7 _ b_law_rows_right _ _ F sc_law_rows_right rfl (fun cdv A outer s H E dl hr tk hp => by
    exact (dss_cons (ds_set 1 sc_law_rows_right.nd (de_call (f_law_four T) (hr.mono (by decide)) tk (da_cons (de_var 0) da_nil))) (dss_cons (ds_if (dt_w (dw_or (dt_cmp (od_ne (hu64 hr)) (de_call (f_rows_between T) (hr.mono (by decide)) tk (da_cons (de_var 1) (da_cons de_int (da_cons de_int (da_cons de_int da_nil))))) (de_lst (da_cons (de_tup (da_cons de_int (da_cons de_int (da_cons de_int da_nil)))) da_nil)) (by rfl)) (dw_or (dt_cmp (od_ne (hu64 hr)) (de_call (f_rows_between T) (hr.mono (by decide)) tk (da_cons (de_var 1) (da_cons de_int (da_cons de_int (da_cons de_int da_nil))))) (de_lst da_nil) (by rfl)) (dw_or1 (dt_cmp (od_ne (hu64 hr)) (de_call (f_rows_between T) (hr.mono (by decide)) tk (da_cons (de_var 1) (da_cons de_int (da_cons de_int (da_cons de_int da_nil))))) (de_lst da_nil) (by rfl)))))) (dss_one (ds_ret de_bl)) dss_nil) (dss_cons (ds_if (dt_w (dw_or (dt_cmp (od_ne (hu64 hr)) (de_call (f_rows_between T) (hr.mono (by decide)) tk (da_cons (de_var 1) (da_cons de_int (da_cons de_int (da_cons de_int da_nil))))) (de_lst (da_cons (de_tup (da_cons de_int (da_cons de_int (da_cons de_int da_nil)))) da_nil)) (by rfl)) (dw_or1 (dt_cmp (od_ne (hu64 hr)) (de_call (f_rows_between T) (hr.mono (by decide)) tk (da_cons (de_var 1) (da_cons de_int (da_cons de_int (da_cons de_int da_nil))))) (de_lst (da_cons (de_tup (da_cons de_int da_nil)) da_nil)) (by rfl))))) (dss_one (ds_ret de_bl)) dss_nil) (dss_cons (ds_if (dt_cmp (od_ne (hu64 hr)) (de_callK0 (fK0_most_last_first_families_rows_between T) (hr.mono (by decide)) tk (fun _ _ _ _ _ h => h) (dk_cons (by exact de_int) (dk_cons (by exact de_int) (dk_cons (by exact de_int) (dk_cons (by exact (de_callTy cd_tuple rfl (n_tuple T) bb_tuple (da_cons (de_var 1) da_nil))) dk_nil))))) (de_lst (da_cons (de_tup (da_cons de_int (da_cons de_int da_nil))) da_nil)) (by rfl)) (dss_one (ds_ret de_bl)) dss_nil) (dss_cons (ds_set 2 sc_law_rows_right.nd (de_lst (da_cons (de_tup (da_cons de_int (da_cons de_int da_nil))) (da_cons (de_tup (da_cons de_int (da_cons de_int da_nil))) (da_cons (de_tup (da_cons de_int (da_cons de_int da_nil))) (da_cons (de_tup (da_cons de_int (da_cons de_int da_nil))) (da_cons (de_tup (da_cons de_int (da_cons de_int da_nil))) (da_cons (de_tup (da_cons de_int (da_cons de_int da_nil))) (da_cons (de_tup (da_cons de_int (da_cons de_int da_nil))) (da_cons (de_tup (da_cons de_int (da_cons de_int da_nil))) da_nil)))))))))) (dss_one (ds_ret (de_and (de_cmp (od_eq (hu64 hr)) (de_call (f_steps_between T) (hr.mono (by decide)) tk (da_cons (de_var 1) da_nil)) (de_var 2) (by rfl)) (de_one (de_cmp (od_eq (hu64 hr)) (de_callK0 (fK0_families_steps_between T) (hr.mono (by decide)) tk (fun _ _ _ _ _ h => h) (dk_cons (by exact (de_slice (de_var 1) (do_some de_int) (do_some de_int))) dk_nil)) (de_lst da_nil) (by rfl))))))))))))
  exact R
theorem fd_need_stages : ∃ fd, FunD K "need_stages" "need_stages" (defArgs s_need_stages) (defBody s_need_stages) (defScope s_need_stages) [] [] (He.ga K "need_stages") fd := T.c.z.y.d.def_ 34 (d := d_need_stages) rfl
theorem f_need_stages : DFn P w K mg base "need_stages" 2 1 m_need_stages := by
  obtain ⟨fd, F⟩ := fd_need_stages T
  refine def_of (g_need_stages T) F.kp rfl (F.bindsN (ps := ["stages"]) fun _ _ _ _ _ _ us hl => match us, hl with | [_], _ => by kernel_rfl) ?_
  have R := @dfn_of P w K mg base _ _ s_need_stages _ fd N_need_stages _ 1 _ b_need_stages _ _ F sc_need_stages rfl (fun cdv A outer s H E dl hr tk hp => by
    exact (dss_one (ds_if (dt_not (dt_val (de_isi rfl (n_isinstance T) (pe_glob (v := .ref (He.ga K "Stages")) rfl (g_Stages T) rfl) (.own _) (one_cls (isi_ok (g_Stages T) (cl_Stages T) (x_9 T)) no_cls) (kits_ok (x_8 T)) (de_var 0)))) (dss_one (ds_raise1 (k := 0) (x1_BadStages T) rfl (hr.mono (by decide)) tk de_str)) dss_nil)))
  exact R
theorem fd_gap : ∃ fd, FunD K "gap" "gap" (defArgs s_gap) (defBody s_gap) (defScope s_gap) [] [] (He.ga K "gap") fd := T.c.z.y.d.def_ 35 (d := d_gap) rfl
theorem f_gap : DFn P w K mg base "gap" 6 1 m_gap := by
  obtain ⟨fd, F⟩ := fd_gap T
  refine def_of (g_gap T) F.kp rfl (F.bindsN (ps := ["stages"]) fun _ _ _ _ _ _ us hl => match us, hl with | [_], _ => by kernel_rfl) ?_
  have R := @dfn_of P w K mg base _ _ s_gap _ fd N_gap _ 5 _ b_gap _ _ F sc_gap rfl (fun cdv A outer s H E dl hr tk hp => by
    exact (dss_cons (ds_expr (de_call (f_need_stages T) (hr.mono (by decide)) tk (da_cons (de_var 0) da_nil))) (dss_one (ds_ret (de_call (f_gap_in T) (hr.mono (by decide)) tk (da_cons (de_fld (fld_Stages_st_pairs T) (de_var 0)) (da_cons (de_fld (fld_Stages_st_done T) (de_var 0)) da_nil)))))))
  exact R
theorem fd_are_indexes : ∃ fd, FunD K "are_indexes" "are_indexes" (defArgs s_are_indexes) (defBody s_are_indexes) (defScope s_are_indexes) [] [] (He.ga K "are_indexes") fd := T.c.z.y.d.def_ 36 (d := d_are_indexes) rfl
theorem f_are_indexes : DFn P w K mg base "are_indexes" 2 2 m_are_indexes := by
  obtain ⟨fd, F⟩ := fd_are_indexes T
  refine def_of (g_are_indexes T) F.kp rfl (F.bindsN (ps := ["thing", "many"]) fun _ _ _ _ _ _ us hl => match us, hl with | [_, _], _ => by kernel_rfl) ?_
  have R := @dfn_of P w K mg base _ _ s_are_indexes _ fd N_are_indexes _ 1 _ b_are_indexes _ _ F sc_are_indexes rfl (fun cdv A outer s H E dl hr tk hp => by
    exact (dss_cons (ds_if (dt_w (dw_or (dt_not (dt_val (de_isi rfl (n_isinstance T) (pe_bltn (v := .ty "tuple") rfl (n_tuple T) bb_tuple rfl) (.ty _) no_cls (kits_ok (x_2 T)) (de_var 0)))) (dw_or1 (dt_not (dt_val (de_callB (cd_all rfl) rfl (n_all T) bb_all (da_cons (de_own (deo_lc (own := [("item", 2)]) rfl sc_are_indexes.nd (dim_of (di_seq (de_var 0))) (blkOk_by (N := N_are_indexes) (sc := defScope s_are_indexes) (by decide +kernel)) (by decide) (fun _ _ _ _ _ => (dg_name 2 sc_are_indexes.nd)) (fun _ _ _ _ _ => dts_nil) (fun _ _ _ _ _ => (de_and (de_call (f_is_number T) (hr.mono (by decide)) takes0 (da_cons (de_var 2) da_nil)) (de_one (de_chain od_le od_ltI de_int (de_var 2) (de_var 1))))))) da_nil))))))) (dss_one (ds_ret de_bl)) dss_nil) (dss_one (ds_ret (de_callB (cd_all rfl) rfl (n_all T) bb_all (da_cons (de_own (deo_lc (own := [("one", 3), ("other", 4)]) rfl sc_are_indexes.nd (dim_of (di_zip rfl (n_zip T) (da_cons (de_var 0) (da_cons (de_slice (de_var 0) (do_some de_int) do_none) da_nil)))) (blkOk_by (N := N_are_indexes) (sc := defScope s_are_indexes) (by decide +kernel)) (by decide) (fun _ _ _ _ _ => (dg_tup (n := 2) rfl (lenK (lenK lenN)) (dgs_cons (dg_name 3 sc_are_indexes.nd) (dgs_cons (dg_name 4 sc_are_indexes.nd) dgs_nil)))) (fun _ _ _ _ _ => dts_nil) (fun _ _ _ _ _ => (de_cmp od_ltI (de_var 3) (de_var 4) (by rfl))))) da_nil))))))
  exact R
theorem fd_Stages___init__ : ∃ fd, FunD K "__init__" "Stages.__init__" (defArgs s_Stages___init__) (defBody s_Stages___init__) (defScope s_Stages___init__) [] [] (He.ma K (He.ga K "Stages") "__init__") fd := T.c.z.y.d.def_ 37 (d := d_Stages___init__) rfl
theorem f_Stages___init__ : MkF P w K mg base "Stages" 6 3 m_Stages___init__ := by
  obtain ⟨fd, F⟩ := fd_Stages___init__ T
  refine make_of (g_Stages T) (mk_Stages T) rfl (F.bindsN (ps := ["self", "machines", "families", "settled"]) fun _ _ _ _ _ _ us hl => match us, hl with | [_, _, _, _], _ => by kernel_rfl) ?_
  have R := @ifn_of P w K mg base _ _ "Stages" s_Stages___init__ _ fd N_Stages___init__ _ 5 _ b_Stages___init__ _ _ F sc_Stages___init__ rfl (fun cdv A outer s H E dl hr tk hp => by
    exact (dss_cons (ds_if (dt_not (dt_val (de_call (f_are_machines T) (hr.mono (by decide)) tk (da_cons (de_var 1) da_nil)))) (dss_one (ds_raise1 (k := 0) (x1_BadStages T) rfl (hr.mono (by decide)) tk de_str)) dss_nil) (dss_cons (ds_set 4 sc_Stages___init__.nd (de_callTy cd_tuple rfl (n_tuple T) bb_tuple (da_cons (de_callB (cd_sorted (hu64 hr)) rfl (n_sorted T) bb_sorted (da_cons (de_var 1) da_nil)) da_nil))) (dss_cons (ds_if (dt_not (dt_val (de_call (f_are_pairs T) (hr.mono (by decide)) tk (da_cons (de_var 4) (da_cons (de_var 2) (da_cons (de_gint rfl (c_MOST_STAGES T).choose_spec) da_nil)))))) (dss_one (ds_raise1 (k := 0) (x1_BadStages T) rfl (hr.mono (by decide)) tk de_str)) dss_nil) (dss_cons (ds_if (dt_not (dt_val (de_call (f_are_indexes T) (hr.mono (by decide)) tk (da_cons (de_var 3) (da_cons (de_bin od_sub (de_callB cd_len rfl (n_len T) bb_len (da_cons (de_var 2) da_nil)) de_int) da_nil))))) (dss_one (ds_raise1 (k := 0) (x1_BadStages T) rfl (hr.mono (by decide)) tk de_str)) dss_nil) (dss_cons (ds_fldC (fld_Stages_st_names T) (de_var 4)) (dss_cons (ds_fldC (fld_Stages_st_pairs T) (de_callTy cd_tuple rfl (n_tuple T) bb_tuple (da_cons (de_var 2) da_nil))) (dss_one (ds_fldC (fld_Stages_st_done T) (de_var 3))))))))))
  exact R
theorem fd_are_right : ∃ fd, FunD K "are_right" "are_right" (defArgs s_are_right) (defBody s_are_right) (defScope s_are_right) [] [] (He.ga K "are_right") fd := T.c.z.y.d.def_ 38 (d := d_are_right) rfl
theorem f_are_right : DFn P w K mg base "are_right" 6 1 m_are_right := by
  obtain ⟨fd, F⟩ := fd_are_right T
  refine def_of (g_are_right T) F.kp rfl (F.bindsN (ps := ["stages"]) fun _ _ _ _ _ _ us hl => match us, hl with | [_], _ => by kernel_rfl) ?_
  have R := @dfn_of P w K mg base _ _ s_are_right _ fd N_are_right _ 5 _ b_are_right _ _ F sc_are_right rfl (fun cdv A outer s H E dl hr tk hp => by
    exact (dss_cons (ds_expr (de_call (f_need_stages T) (hr.mono (by decide)) tk (da_cons (de_var 0) da_nil))) (dss_one (ds_ret (de_cmp od_isN (de_call (f_gap_in T) (hr.mono (by decide)) tk (da_cons (de_fld (fld_Stages_st_pairs T) (de_var 0)) (da_cons (de_fld (fld_Stages_st_done T) (de_var 0)) da_nil))) de_non (by rfl))))))
  exact R
theorem fd_law_stages_right : ∃ fd, FunD K "_law_stages_right" "_law_stages_right" (defArgs s_law_stages_right) (defBody s_law_stages_right) (defScope s_law_stages_right) [] [] (He.ga K "_law_stages_right") fd := T.c.z.y.d.def_ 39 (d := d_law_stages_right) rfl
theorem f_law_stages_right : DFn P w K mg base "_law_stages_right" 8 1 m_law_stages_right := by
  obtain ⟨fd, F⟩ := fd_law_stages_right T
  refine def_of (g__law_stages_right T) F.kp rfl (F.bindsN (ps := ["_law_names"]) fun _ _ _ _ _ _ us hl => match us, hl with | [_], _ => by kernel_rfl) ?_
  have R := @dfn_of P w K mg base _ _ s_law_stages_right _ fd N_law_stages_right _ 7 _ b_law_stages_right _ _ F sc_law_stages_right rfl (fun cdv A outer s H E dl hr tk hp => by
    exact (dss_cons (ds_asg (de_slice (de_call (f_law_four T) (hr.mono (by decide)) tk (da_cons (de_var 0) da_nil)) do_none (do_some de_int)) (dg_lst (n := 3) rfl (lenK (lenK (lenK lenN))) (dgs_cons (dg_name 1 sc_law_stages_right.nd) (dgs_cons (dg_name 2 sc_law_stages_right.nd) (dgs_cons (dg_name 3 sc_law_stages_right.nd) dgs_nil))))) (dss_cons (ds_if (dt_cmp (od_neT (hu66 hr)) (de_call (f_gap T) (hr.mono (by decide)) tk (da_cons (de_make (f_Stages___init__ T) (hr.mono (by decide)) tk (fun _ _ _ _ _ h => h) (da_cons (de_var 0) (da_cons (de_lst (da_cons (de_var 1) (da_cons (de_var 3) da_nil))) (da_cons (de_tup da_nil) da_nil)))) da_nil)) (de_tup (da_cons de_int (da_cons de_int (da_cons (de_tup (da_cons (de_sub (de_var 0) de_int) da_nil)) (da_cons (de_disp (l := [((fun _ => ret (.int 0)), (EK.gTup (saC (g2 ixD (gv 0) (fun _ => ret (.int 1))) (saC (g2 ixD (gv 0) (fun _ => ret (.int 2))) sa0))))]) (pps_cons de_int (de_tup (da_cons (de_sub (de_var 0) de_int) (da_cons (de_sub (de_var 0) de_int) da_nil))) pps_nil)) da_nil))))) (by rfl)) (dss_one (ds_ret de_bl)) dss_nil) (dss_cons (ds_if (dt_cmp (od_ne (hu64 hr)) (de_own (deo_lc (own := [("_law_done", 4)]) rfl sc_law_stages_right.nd (dim_of (di_seq (de_lst (da_cons (de_tup da_nil) (da_cons (de_tup (da_cons de_int da_nil)) (da_cons (de_tup (da_cons de_int da_nil)) (da_cons (de_tup (da_cons de_int (da_cons de_int da_nil))) da_nil))))))) (blkOk_by (N := N_law_stages_right) (sc := defScope s_law_stages_right) (by decide +kernel)) (by decide) (fun _ _ _ _ _ => (dg_name 4 sc_law_stages_right.nd)) (fun _ _ _ _ _ => dts_nil) (fun _ _ _ _ _ => (de_call (f_are_right T) (hr.mono (by decide)) takes0 (da_cons (de_make (f_Stages___init__ T) (hr.mono (by decide)) takes0 (fun _ _ _ _ _ h => h) (da_cons (de_var 0) (da_cons (de_lst (da_cons (de_var 1) (da_cons (de_var 2) (da_cons (de_var 3) da_nil)))) (da_cons (de_var 4) da_nil)))) da_nil))))) (de_lst (da_cons de_bl (da_cons de_bl (da_cons de_bl (da_cons de_bl da_nil))))) (by rfl)) (dss_one (ds_ret de_bl)) dss_nil) (dss_cons (ds_if (dt_cmp (od_neT (hu66 hr)) (de_call (f_gap T) (hr.mono (by decide)) tk (da_cons (de_make (f_Stages___init__ T) (hr.mono (by decide)) tk (fun _ _ _ _ _ h => h) (da_cons (de_var 0) (da_cons (de_lst (da_cons (de_var 2) da_nil)) (da_cons (de_tup da_nil) da_nil)))) da_nil)) (de_tup (da_cons de_int (da_cons de_int (da_cons (de_tup (da_cons (de_sub (de_var 0) de_int) (da_cons (de_sub (de_var 0) de_int) da_nil))) (da_cons (de_disp (l := [((fun _ => ret (.int 0)), (EK.gTup (saC (g2 ixD (gv 0) (fun _ => ret (.int 0))) sa0)))]) (pps_cons de_int (de_tup (da_cons (de_sub (de_var 0) de_int) da_nil)) pps_nil)) da_nil))))) (by rfl)) (dss_one (ds_ret de_bl)) dss_nil) (dss_one (ds_ret (de_and (de_call (f_are_right T) (hr.mono (by decide)) tk (da_cons (de_make (f_Stages___init__ T) (hr.mono (by decide)) tk (fun _ _ _ _ _ h => h) (da_cons (de_var 0) (da_cons (de_lst (da_cons (de_var 1) da_nil)) (da_cons (de_tup da_nil) da_nil)))) da_nil)) (de_one (de_call (f_are_right T) (hr.mono (by decide)) tk (da_cons (de_make (f_Stages___init__ T) (hr.mono (by decide)) tk (fun _ _ _ _ _ h => h) (da_cons (de_var 0) (da_cons (de_lst (da_cons (de_var 1) (da_cons (de_var 1) (da_cons (de_var 1) (da_cons (de_var 1) da_nil))))) (da_cons (de_tup (da_cons de_int da_nil)) da_nil)))) da_nil)))))))))))
  exact R
theorem fd_law_said : ∃ fd, FunD K "_law_said" "_law_said" (defArgs s_law_said) (defBody s_law_said) (defScope s_law_said) [] [] (He.ga K "_law_said") fd := T.c.z.y.d.def_ 40 (d := d_law_said) rfl
theorem wd_law_said : ∃ fd, FunD K "_law_said" "_law_said" (defArgs s_law_said) (defBody s_law_said) (defScope s_law_said) [] [] (He.ga K "_law_said") fd /\ Binds K fd ["_law_task"] [] := by
  obtain ⟨fd, F⟩ := fd_law_said T
  exact ⟨fd, F, F.bindsN fun _ _ _ _ _ _ us hl => match us, hl with | [_], _ => by kernel_rfl⟩
theorem fd_law_refused_right : ∃ fd, FunD K "_law_refused_right" "_law_refused_right" (defArgs s_law_refused_right) (defBody s_law_refused_right) (defScope s_law_refused_right) [] [] (He.ga K "_law_refused_right") fd := T.c.z.y.d.def_ 41 (d := d_law_refused_right) rfl
theorem f_law_refused_right (TB : TBs K tf mg base) : DFnG P w K mg base (tabsOf K tf lamN) "_law_refused_right" 11 2 m_law_refused_right := by
  obtain ⟨fd, F⟩ := fd_law_refused_right T
  refine def_ofG (g__law_refused_right T) F.kp rfl (F.bindsN (ps := ["_law_draw", "_law_names"]) fun _ _ _ _ _ _ us hl => match us, hl with | [_, _], _ => by kernel_rfl) ?_
  have R := @dfn_ofG P w K mg base _ _ _ fd (tabsOf K tf lamN) s_law_refused_right N_law_refused_right _ 10 _ b_law_refused_right _ _ F sc_law_refused_right rfl (fun cdv A outer s H E dl hr tk hp hG hT hcd hC => by
    exact (dss_cons (ds_set 2 sc_law_refused_right.nd (de_call (f_law_four T) (hr.mono (by decide)) tk (da_cons (de_var 1) da_nil))) (dss_cons (ds_set 3 sc_law_refused_right.nd (de_call (f_law_pick T) (hr.mono (by decide)) tk (da_cons (de_var 0) (da_cons (de_lst (da_cons de_non (da_cons (de_lst da_nil) (da_cons (de_bin od_mul (de_var 2) de_int) (da_cons (de_lst (da_cons (de_sub (de_var 2) de_int) (da_cons de_non da_nil))) (da_cons (de_lst (da_cons (de_callTy cd_list rfl (n_list T) bb_list (da_cons (de_sub (de_var 2) de_int) da_nil)) da_nil)) (da_cons de_int (da_cons de_str (da_cons (de_lst (da_cons (de_tup (da_cons (de_sub (de_sub (de_var 2) de_int) de_int) da_nil)) da_nil)) (da_cons de_dict0 (da_cons (de_lst (da_cons (de_tup da_nil) da_nil)) da_nil))))))))))) da_nil)))) (dss_cons (ds_asg (de_tup (da_cons (de_call (f_law_pick T) (hr.mono (by decide)) tk (da_cons (de_var 0) (da_cons (de_lst (da_cons (de_un ud_neg de_int) (da_cons de_int (da_cons de_bl (da_cons de_non (da_cons de_str (da_cons (de_lst (da_cons de_int da_nil)) da_nil))))))) da_nil))) (da_cons (de_call (f_law_pick T) (hr.mono (by decide)) tk (da_cons (de_var 0) (da_cons (de_lst (da_cons de_int (da_cons de_int (da_cons de_bl (da_cons de_non (da_cons de_str da_nil)))))) da_nil))) da_nil))) (dg_tup (n := 2) rfl (lenK (lenK lenN)) (dgs_cons (dg_name 4 sc_law_refused_right.nd) (dgs_cons (dg_name 5 sc_law_refused_right.nd) dgs_nil)))) (dss_cons (ds_set 6 sc_law_refused_right.nd (de_bin od_add (de_slice (de_var 2) do_none (do_some de_int)) (de_lst (da_cons (de_tup (da_cons (de_make (f_Family___init__ T) (hr.mono (by decide)) tk (fun _ _ _ _ _ h => h) (da_cons (de_slice (de_var 1) do_none (do_some de_int)) (da_cons (de_lst (da_cons (de_tup (da_cons (de_sub (de_var 1) de_int) da_nil)) da_nil)) da_nil))) (da_cons (de_make (f_Family___init__ T) (hr.mono (by decide)) tk (fun _ _ _ _ _ h => h) (da_cons (de_slice (de_var 1) do_none (do_some de_int)) (da_cons (de_lst (da_cons (de_tup (da_cons (de_sub (de_var 1) de_int) da_nil)) da_nil)) da_nil))) da_nil))) da_nil)))) (dss_lamN (kk := 7) (f := (gCall 4 m_rows_between (saC (gv 3) (saC (gv 4) (saC (gv 4) (saC (gv 5) sa0)))))) 7 rfl (TBs.at TB (d := ("_law_refused_right", none)) (by decide)) hC (by rw [hT]; exact tabs_mem (d := ("_law_refused_right", none)) (by decide)) (by rw [hT]; exact tabs_uniq T.c.dj (d := ("_law_refused_right", none)) (by decide)) (LamX.lamS_by (sc := defScope s_law_refused_right) (by decide +kernel)) (fun dl hq A outer s H E fa c' hr tk => by have hT := hq.trans hT; exact (de_call (f_rows_between T) (hr.mono (by decide)) tk (da_cons (de_var 3) (da_cons (de_var 4) (da_cons (de_var 4) (da_cons (de_var 5) da_nil)))))) (fun _ _ _ _ _ => by kernel_rfl) tk sc_law_refused_right.nd (fun pn dl n0 hq tk mon0 atn0 => by have hT := hq.1.trans hT; exact (dss_lamA (kk := 7) (f := (gCall 4 m_rows_between (saC (gv 2) (saC (gv 4) (saC (fun _ => ret .non) (saC (gv 5) sa0)))))) 7 rfl (TBs.at TB (d := ("_law_refused_right", none)) (by decide)) hC (by rw [hT]; exact tabs_mem (d := ("_law_refused_right", none)) (by decide)) (by rw [hT]; exact tabs_uniq T.c.dj (d := ("_law_refused_right", none)) (by decide)) (LamX.lamS_by (sc := defScope s_law_refused_right) (by decide +kernel)) (fun dl hq A outer s H E fa c' hr tk => by have hT := hq.trans hT; exact (de_call (f_rows_between T) (hr.mono (by decide)) tk (da_cons (de_var 2) (da_cons (de_var 4) (da_cons de_non (da_cons (de_var 5) da_nil)))))) (fun _ _ _ _ _ => by kernel_rfl) tk (fun pn dl n1 hq tk mon1 atn1 => by have hT := hq.1.trans hT; exact (dss_lamA (kk := 7) (f := (gCall 4 m_rows_between (saC (gv 2) (saC (fun _ => ret (.int 0)) (saC (gv 4) (saC (gv 5) sa0)))))) 7 rfl (TBs.at TB (d := ("_law_refused_right", none)) (by decide)) hC (by rw [hT]; exact tabs_mem (d := ("_law_refused_right", none)) (by decide)) (by rw [hT]; exact tabs_uniq T.c.dj (d := ("_law_refused_right", none)) (by decide)) (LamX.lamS_by (sc := defScope s_law_refused_right) (by decide +kernel)) (fun dl hq A outer s H E fa c' hr tk => by have hT := hq.trans hT; exact (de_call (f_rows_between T) (hr.mono (by decide)) tk (da_cons (de_var 2) (da_cons de_int (da_cons (de_var 4) (da_cons (de_var 5) da_nil)))))) (fun _ _ _ _ _ => by kernel_rfl) tk (fun pn dl n2 hq tk mon2 atn2 => by have hT := hq.1.trans hT; exact (dss_lamA (kk := 7) (f := (gCall 4 m_rows_between (saC (gv 2) (saC (fun _ => ret (.int 0)) (saC (fun _ => ret (.int 1)) (saC (gv 5) sa0)))))) 7 rfl (TBs.at TB (d := ("_law_refused_right", none)) (by decide)) hC (by rw [hT]; exact tabs_mem (d := ("_law_refused_right", none)) (by decide)) (by rw [hT]; exact tabs_uniq T.c.dj (d := ("_law_refused_right", none)) (by decide)) (LamX.lamS_by (sc := defScope s_law_refused_right) (by decide +kernel)) (fun dl hq A outer s H E fa c' hr tk => by have hT := hq.trans hT; exact (de_call (f_rows_between T) (hr.mono (by decide)) tk (da_cons (de_var 2) (da_cons de_int (da_cons de_int (da_cons (de_var 5) da_nil)))))) (fun _ _ _ _ _ => by kernel_rfl) tk (fun pn dl n3 hq tk mon3 atn3 => by have hT := hq.1.trans hT; exact (dss_lamA (kk := 7) (f := (gCall 1 m_steps_between (saC (gv 3) sa0))) 7 rfl (TBs.at TB (d := ("_law_refused_right", none)) (by decide)) hC (by rw [hT]; exact tabs_mem (d := ("_law_refused_right", none)) (by decide)) (by rw [hT]; exact tabs_uniq T.c.dj (d := ("_law_refused_right", none)) (by decide)) (LamX.lamS_by (sc := defScope s_law_refused_right) (by decide +kernel)) (fun dl hq A outer s H E fa c' hr tk => by have hT := hq.trans hT; exact (de_call (f_steps_between T) (hr.mono (by decide)) tk (da_cons (de_var 3) da_nil))) (fun _ _ _ _ _ => by kernel_rfl) tk (fun pn dl n4 hq tk mon4 atn4 => by have hT := hq.1.trans hT; exact (dss_lamA (kk := 7) (f := (gCall 1 m_steps_between (saC (gv 6) sa0))) 7 rfl (TBs.at TB (d := ("_law_refused_right", none)) (by decide)) hC (by rw [hT]; exact tabs_mem (d := ("_law_refused_right", none)) (by decide)) (by rw [hT]; exact tabs_uniq T.c.dj (d := ("_law_refused_right", none)) (by decide)) (LamX.lamS_by (sc := defScope s_law_refused_right) (by decide +kernel)) (fun dl hq A outer s H E fa c' hr tk => by have hT := hq.trans hT; exact (de_call (f_steps_between T) (hr.mono (by decide)) tk (da_cons (de_var 6) da_nil))) (fun _ _ _ _ _ => by kernel_rfl) tk (fun pn dl n5 hq tk mon5 atn5 => by have hT := hq.1.trans hT; exact (dss_cons (ds_set 8 sc_law_refused_right.nd (de_lst (da_cons (de_tup (da_cons de_str (da_cons de_str da_nil))) (da_cons (de_tup (da_cons de_str (da_cons (de_var 4) da_nil))) (da_cons (de_tup (da_cons de_str (da_cons (de_var 4) da_nil))) (da_cons (de_tup (da_cons de_str (da_cons (de_var 5) da_nil))) (da_cons (de_tup (da_cons de_str (da_cons de_str da_nil))) (da_cons (de_tup (da_cons de_str (da_cons de_str da_nil))) da_nil)))))))) (dss_one (ds_ret (de_cmp od_eqS (de_callB (cd_repr hG (hu64 hr)) rfl (n_repr T) bb_repr (da_cons (de_own (deo_lcJ (own := [("_law_work", 9)]) rfl sc_law_refused_right.nd (di_own (pe_var rfl (by first | exact Or.inl rfl | exact Or.inr (Or.inl rfl) | exact Or.inr (Or.inr rfl)) (by decide) (by decide))) (blkOk_by (N := N_law_refused_right) (sc := defScope s_law_refused_right) (by decide +kernel)) (by decide) (fun _ _ _ _ _ => (dg_name 9 sc_law_refused_right.nd)) (fun _ _ _ _ _ => dts_nil) (by obtain ⟨fdw, FW, BW⟩ := wd_law_said T; exact item_word (kk := 7) (j := 9) (own := [("_law_work", 9)]) (ca_law T) FW (g__law_said T) BW sc_law_said hs_law_said (kx_law T) (hr.mono (by decide)) (tbl_cons (mon5 _ _ _ (mon4 _ _ _ (mon3 _ _ _ (mon2 _ _ _ (mon1 _ _ _ atn0))))) (tbl_cons (mon5 _ _ _ (mon4 _ _ _ (mon3 _ _ _ (mon2 _ _ _ atn1)))) (tbl_cons (mon5 _ _ _ (mon4 _ _ _ (mon3 _ _ _ atn2))) (tbl_cons (mon5 _ _ _ (mon4 _ _ _ atn3)) (tbl_cons (mon5 _ _ _ atn4) (tbl_cons atn5 tbl_nil)))))) rfl (fun cdw s H hr => (dss_cons (ds_if (dt_val (de_isiX rfl (n_isinstance T) (pe_glob (v := .ref (He.ga K "BadStages")) rfl (g_BadStages T) rfl) (.own _) (one_clx (xis_ok (g_BadCount T) (x_22 T) (x_21 T)) (one_clx (xis_ok (g_BadFamily T) (x_20 T) (x_19 T)) (one_clx (xis_ok (g_BadIndex T) (x_18 T) (x_17 T)) (one_clx (xis_ok (g_BadLot T) (x_16 T) (x_15 T)) (one_clx (xis_ok (g_BadStages T) (x_14 T) (x_13 T)) (one_clx (xis_ok (g_OtherMachines T) (x_12 T) (x_11 T)) no_clx)))))) no_cls (kits_ok (x_10 T)) (de_var 1))) (dss_one (ds_ret (de_tup (da_cons de_str (da_cons (de_fldX (one_flx (fldX_ok (g_BadFamily T) (x_20 T) (T.c.z.y.d.fact 86 (f := .noat "BadFamily" "part") rfl)) (one_flx (fldX_ok (g_BadStages T) (x_14 T) (T.c.z.y.d.fact 85 (f := .noat "BadStages" "part") rfl)) no_flx)) (de_var 1)) da_nil))))) dss_nil) (dss_cons (ds_if (dt_val (de_isiX rfl (n_isinstance T) (pe_glob (v := .ref (He.ga K "BadIndex")) rfl (g_BadIndex T) rfl) (.own _) (one_clx (xis_ok (g_BadCount T) (x_22 T) (x_29 T)) (one_clx (xis_ok (g_BadFamily T) (x_20 T) (x_28 T)) (one_clx (xis_ok (g_BadIndex T) (x_18 T) (x_27 T)) (one_clx (xis_ok (g_BadLot T) (x_16 T) (x_26 T)) (one_clx (xis_ok (g_BadStages T) (x_14 T) (x_25 T)) (one_clx (xis_ok (g_OtherMachines T) (x_12 T) (x_24 T)) no_clx)))))) no_cls (kits_ok (x_23 T)) (de_var 1))) (dss_one (ds_ret (de_tup (da_cons de_str (da_cons (de_fldX (one_flx (fldX_ok (g_BadIndex T) (x_18 T) (T.c.z.y.d.fact 87 (f := .noat "BadIndex" "index") rfl)) no_flx) (de_var 1)) da_nil))))) dss_nil) (dss_cons (ds_if (dt_val (de_isiX rfl (n_isinstance T) (pe_glob (v := .ref (He.ga K "BadCount")) rfl (g_BadCount T) rfl) (.own _) (one_clx (xis_ok (g_BadCount T) (x_22 T) (x_36 T)) (one_clx (xis_ok (g_BadFamily T) (x_20 T) (x_35 T)) (one_clx (xis_ok (g_BadIndex T) (x_18 T) (x_34 T)) (one_clx (xis_ok (g_BadLot T) (x_16 T) (x_33 T)) (one_clx (xis_ok (g_BadStages T) (x_14 T) (x_32 T)) (one_clx (xis_ok (g_OtherMachines T) (x_12 T) (x_31 T)) no_clx)))))) no_cls (kits_ok (x_30 T)) (de_var 1))) (dss_one (ds_ret (de_tup (da_cons de_str (da_cons (de_fldX (one_flx (fldX_ok (g_BadCount T) (x_22 T) (T.c.z.y.d.fact 88 (f := .noat "BadCount" "count") rfl)) no_flx) (de_var 1)) da_nil))))) dss_nil) (dss_one (ds_ret (de_ifExp (dt_cmp od_isN (de_var 1) de_non (by rfl)) (de_tup (da_cons de_str (da_cons de_non da_nil))) (de_tup (da_cons de_str (da_cons de_non da_nil))))))))))))) da_nil)) (de_callB (cd_repr hG (hu64 hr)) rfl (n_repr T) bb_repr (da_cons (de_var 8) da_nil)) (by rfl))))))))))))))))))))))
  exact R
theorem fd_law : ∃ fd, FunD K "law" "law" (defArgs s_law) (defBody s_law) (defScope s_law) [] [] (He.ga K "law") fd := T.c.z.y.d.def_ 42 (d := d_law) rfl
theorem f_law (TB : TBs K tf mg base) {fd : FuncData} (F : FunD K "law" "law" (defArgs s_law) (defBody s_law) (defScope s_law) [] [] (He.ga K "law") fd) : FnOkG P w K mg base (L2.CX P w) 12 (He.ga K "law") fd ["_law_script"] (spLaw K (tabsOf K tf lamN) m_law) := by
  obtain ⟨fdb, FB⟩ := fd_law_begun T
  have GB : FnOk P w K mg base L2.CX0 1 (He.ga K "_law_begun") fdb ["_law_script"] (spB K mg w) := ok_begun T FB
  have bB : Binds K fdb ["_law_script"] [] := FB.bindsN fun _ _ _ _ _ _ us hl => match us, hl with | [_], _ => by kernel_rfl
  have R := @law_ofG (tabsOf K tf lamN) P w K mg base _ _ s_law _ fd N_law 11 b_law _ _ _ F sc_law (by decide) (fun cdv A outer s H E hr tk hp hG hcd hC => by
    exact pss_cons (ps_set (i := 1) sc_law.nd rfl (by first | exact Or.inl rfl | exact Or.inr rfl) (pe_call GB (hr.mono (by decide)) rfl (g__law_begun T) FB.kp bB .nil L2.pass0 (pa_cons (pv 0) pa_nil))) (pss_dl fun dl hT hA => (dss_cons (ds_for hp rfl (di_range1 rfl (n_range T) (da_cons (de_bin od_add de_int (de_callB (cd_min2 rfl) rfl (n_min T) bb_min (da_cons (de_callB cd_len rfl (n_len T) bb_len (da_cons (de_var 0) da_nil)) (da_cons de_int da_nil)))) da_nil)) (dg_name 2 sc_law.nd) (dss_cons (ds_set 3 sc_law.nd (de_call (f_law_labels T) (hr.mono (by decide)) tk (da_cons (de_var 1) (da_cons de_int da_nil)))) (dss_one (ds_if (dt_w (dw_or (dt_not (dt_val (de_call (f_law_rows_right T) (hr.mono (by decide)) tk (da_cons (de_var 3) da_nil)))) (dw_or (dt_not (dt_val (de_call (f_law_stages_right T) (hr.mono (by decide)) tk (da_cons (de_var 3) da_nil)))) (dw_or1 (dt_not (dt_val (de_callG (f_law_refused_right T TB) (hr.mono (by decide)) hG hT tk (da_cons (de_var 1) (da_cons (de_var 3) da_nil))))))))) (dss_one (ds_ret de_bl)) dss_nil)))) (dss_one (ds_ret de_bl)))))
  exact R
end
def Lw : Prop := ∀ ns : List Int, ns.length <= 63 -> ∃ s, m_law ns (ds0 ns) = some (.ok (.bl true), s)
end
end EKB.K59
open PySem PySem.W PySem.Calls PyProof.Rows in
set_option maxHeartbeats 0 in
theorem EKB.K59.holds_of (lw : EKB.K59.Lw) : PySem.Challenge.rw_electkeep_k59_stages_known_by_hand.Holds := by
  w_on; o_law
  refine HandSHeadRun.head_any (r := OpenLaw.row PySem.Challenge.rw_electkeep_k59_stages_known_by_hand) (q := view (OpenLaw.row PySem.Challenge.rw_electkeep_k59_stages_known_by_hand).prog [65]) (H := EKB.K59.hk) (ob := EKB.K59.ob) (M := 30000) (loose := EKB.K59.names) (d := HandSHeadRun.topDef (OpenLaw.row PySem.Challenge.rw_electkeep_k59_stages_known_by_hand).prog 65) (kwd := []) EKB.K59.ob_eq
    (by kernel_rfl) (fun s => by kernel_rfl) EKB.K59.run (by kernel_rfl) (by kernel_rfl) (by kernel_rfl) (by rfl) (by first | assumption | decide +kernel) (by decide +kernel) ⟨rfl, rfl, rfl, rfl, rfl, by decide +kernel⟩ ?hw ?hc
  case hw => w_witness2
  case hc =>
    refine EK.walk_ofG (l := PySem.Challenge.rw_electkeep_k59_stages_known_by_hand) (n := 63) (k := 12) (x := "_law_script") (CX := L2.CX (PySem.Challenge.rw_electkeep_k59_stages_known_by_hand).prog) rfl (by decide) (by kernel_rfl) ⟨rfl, by decide, by decide⟩ ?F (fun _ _ _ _ _ z => by obtain ⟨_, _, _, _, _, _, _, _, _, _, _, _, h⟩ := z; exact h)
    intro w mg fa h Y G hmg0
    obtain ⟨K, KX, c⟩ := Y
    have hmg : mg ("law" : PySem.Str) = some (.ref fa) := by
      have e : (HandSHeadRun.topDef (OpenLaw.row PySem.Challenge.rw_electkeep_k59_stages_known_by_hand).prog 65).name = ("law" : PySem.Str) := by kernel_rfl
      rw [<- e]
      exact hmg0
    have T : EKB.K59.Tx h K mg := ⟨c, h, KX, G⟩
    have e := hmg.symm.trans (EKB.K59.g_law T)
    cases e
    obtain ⟨fd, F⟩ := EKB.K59.fd_law T
    have b := L2.FunD.bindsA (ps := ["_law_script"]) F fun _ _ _ _ _ _ us hl => match us, hl with | [_], _ => by kernel_rfl
    exact ⟨K, fd, EKB.K59.tf.map (He.cT K), EK.spLaw K (EK.tabsOf K EKB.K59.tf EKB.K59.lamN) EKB.K59.m_law, KX, fun p hp => by
      obtain ⟨d, hd, rfl⟩ := List.mem_map.mp hp
      exact c.z.empty d hd, fun p hp => by
      obtain ⟨d, hd, rfl⟩ := List.mem_map.mp hp
      exact c.z.out d hd, fun p hp => by
      obtain ⟨d, hd, rfl⟩ := List.mem_map.mp hp
      exact PySem.W.codeHd_of_K KX (c.z.hd d hd), fun s v => b s [v] rfl, fun H a ns hl h1 h2 hS => ⟨a, ns, rfl, EK.tabs_on h1, EK.tabs_on2 h2, hS, hl, lw ns hl, fun _ => rfl⟩, fun base _ _ TB => EKB.K59.f_law (w := w) T TB F⟩
namespace EK
open PySem PySem.Spec PyProof.Rows L2 EKL
section
mutual
def cln : PyData -> Bool
  | .none => true
  | .int _ => true
  | .str _ => true
  | .tuple xs => clnAll xs
  | .list xs => clnAll xs
  | _ => false
def clnAll : List PyData -> Bool
  | [] => true
  | x :: xs => cln x && clnAll xs
end
mutual
theorem eqv_cln : ∀ (p q : PyData), cln p = true -> cln q = true -> (PyData.eqv p q = true ↔ p = q)
  | .none, q, _, hq => by cases q <;> simp [PyData.eqv, cln] at *
  | .int i, q, _, hq => by cases q <;> simp [PyData.eqv, cln] at *
  | .str x, q, _, hq => by cases q <;> simp [PyData.eqv, cln] at *
  | .tuple xs, q, hp, hq => by
    cases q with
    | tuple ys =>
      have hp : clnAll xs = true := by simpa [cln] using hp
      have hq : clnAll ys = true := by simpa [cln] using hq
      rw [PyData.eqv, eqvAll_cln xs ys hp hq]
      simp
    | _ => simp [PyData.eqv]
  | .list xs, q, hp, hq => by
    cases q with
    | list ys =>
      have hp : clnAll xs = true := by simpa [cln] using hp
      have hq : clnAll ys = true := by simpa [cln] using hq
      rw [PyData.eqv, eqvAll_cln xs ys hp hq]
      simp
    | _ => simp [PyData.eqv]
  | .bool _, _, hp, _ => by simp [cln] at hp
  | .dict _, _, hp, _ => by simp [cln] at hp
theorem eqvAll_cln : ∀ (ps qs : List PyData), clnAll ps = true -> clnAll qs = true -> (PyData.eqvAll ps qs = true ↔ ps = qs)
  | [], [], _, _ => by simp [PyData.eqvAll]
  | [], _ :: _, _, _ => by simp [PyData.eqvAll]
  | _ :: _, [], _, _ => by simp [PyData.eqvAll]
  | p :: ps, q :: qs, hp, hq => by
    rw [clnAll, Bool.and_eq_true] at hp hq
    rw [PyData.eqvAll, Bool.and_eq_true, eqv_cln p q hp.1 hq.1, eqvAll_cln ps qs hp.2 hq.2]
    simp
end
mutual
theorem toP_inj : ∀ (a b : D) (p : PyData), toP a = some p -> toP b = some p -> a = b
  | .non, b, p, ha, hb => by cases ha; cases b <;> simp [toP] at hb ⊢
  | .bl x, b, p, ha, hb => by cases ha; cases b <;> simp [toP] at hb ⊢; exact hb.symm
  | .int x, b, p, ha, hb => by cases ha; cases b <;> simp [toP] at hb ⊢; exact hb.symm
  | .str x, b, p, ha, hb => by cases ha; cases b <;> simp [toP] at hb ⊢; exact hb.symm
  | .tup xs, b, p, ha, hb => by
    rw [toP, Option.map_eq_some_iff] at ha
    obtain ⟨ps, h1, rfl⟩ := ha
    cases b <;> simp [toP] at hb ⊢
    exact toPs_inj xs _ ps h1 hb
  | .lst xs, b, p, ha, hb => by
    rw [toP, Option.map_eq_some_iff] at ha
    obtain ⟨ps, h1, rfl⟩ := ha
    cases b <;> simp [toP] at hb ⊢
    exact toPs_inj xs _ ps h1 hb
  | .obj _ _ _, _, _, ha, _ => by simp [toP] at ha
  | .drw, _, _, ha, _ => by simp [toP] at ha
  | .scr _, _, _, ha, _ => by simp [toP] at ha
  | .dct _ _, _, _, ha, _ => by simp [toP] at ha
  | .dcT _ _, _, _, ha, _ => by simp [toP] at ha
  | .dcN _ _, _, _, ha, _ => by simp [toP] at ha
  | .exm _ _, _, _, ha, _ => by simp [toP] at ha
  | .exc _ _ _, _, _, ha, _ => by simp [toP] at ha
theorem toPs_inj : ∀ (xs ys : List D) (ps : List PyData), toPs xs = some ps -> toPs ys = some ps -> xs = ys
  | [], ys, ps, hx, hy => by
    cases hx
    cases ys with
    | nil => rfl
    | cons y ys =>
      rw [toPs] at hy
      cases h : toP y with
      | none => rw [h] at hy; cases hy
      | some q => rw [h] at hy; simp at hy
  | x :: xs, ys, ps, hx, hy => by
    rw [toPs] at hx
    cases h : toP x with
    | none => rw [h] at hx; cases hx
    | some p =>
      rw [h] at hx
      simp only [Option.bind_some, Option.map_eq_some_iff] at hx
      obtain ⟨qs, h2, rfl⟩ := hx
      cases ys with
      | nil => cases hy
      | cons y ys =>
        rw [toPs] at hy
        cases k : toP y with
        | none => rw [k] at hy; cases hy
        | some q =>
          rw [k] at hy
          simp only [Option.bind_some, Option.map_eq_some_iff, List.cons.injEq] at hy
          obtain ⟨rs, h3, h4, h5⟩ := hy
          subst h4 h5
          rw [toP_inj x y _ h k, toPs_inj xs ys _ h2 h3]
end
def Cl (n : Nat) (d : D) : Prop := ∃ p, toP d = some p /\ cln p = true /\ Shp p n
theorem Cl.mono {n k : Nat} {d : D} (h : Cl n d) (l : n <= k) : Cl k d := by
  obtain ⟨p, h1, h2, h3⟩ := h
  exact ⟨p, h1, h2, h3.mono l⟩
theorem Cl.int (i : Int) : Cl 0 (.int i) := ⟨_, rfl, rfl, Shp.int i⟩
theorem Cl.non : Cl 0 .non := ⟨_, rfl, rfl, Shp.none⟩
theorem Cl.str {x : Str} (h : PyData.strOk x = true) : Cl 0 (.str x) := ⟨_, rfl, rfl, Shp.str h⟩
theorem Cl.all {n : Nat} : ∀ {ds : List D}, (∀ d ∈ ds, Cl n d) -> ∃ ps, toPs ds = some ps /\ clnAll ps = true /\ ∀ p ∈ ps, Shp p n
  | [], _ => ⟨[], rfl, rfl, fun _ h => nomatch h⟩
  | d :: ds, h => by
    obtain ⟨p, h1, h2, h3⟩ := h d (.head _)
    obtain ⟨ps, k1, k2, k3⟩ := Cl.all fun x hx => h x (.tail _ hx)
    refine ⟨p :: ps, by rw [toPs, h1, Option.bind_some, k1]; rfl, by rw [clnAll, h2, k2]; rfl, fun q hq => ?_⟩
    rcases List.mem_cons.mp hq with rfl | hq
    · exact h3
    · exact k3 q hq
theorem Cl.tup {n : Nat} {ds : List D} (h : ∀ d ∈ ds, Cl n d) : Cl (n + 1) (.tup ds) := by
  obtain ⟨ps, k1, k2, k3⟩ := Cl.all h
  exact ⟨_, by rw [toP, k1]; rfl, by rw [cln]; exact k2, Shp.tuple k3⟩
theorem Cl.lst {n : Nat} {ds : List D} (h : ∀ d ∈ ds, Cl n d) : Cl (n + 1) (.lst ds) := by
  obtain ⟨ps, k1, k2, k3⟩ := Cl.all h
  exact ⟨_, by rw [toP, k1]; rfl, by rw [cln]; exact k2, Shp.list k3⟩
theorem cl_eqv {n k : Nat} {a b : D} {p q : PyData} (ha : toP a = some p) (hb : toP b = some q) (ca : cln p = true) (cb : cln q = true) : PyData.eqv p q = true ↔ a = b := by
  rw [eqv_cln p q ca cb]
  constructor
  · intro e
    subst e
    exact toP_inj a b p ha hb
  · intro e
    subst e
    rw [ha] at hb
    exact Option.some.inj hb
theorem eqD_cl {n k : Nat} {a b : D} (ha : Cl n a) (hb : Cl k b) {t : Bool} (h : t = true ↔ a = b) (hn : n <= 64 := by decide) (hk : k <= 64 := by decide) : eqD a b = some (.bl t) := by
  obtain ⟨p, h1, h2, h3⟩ := ha
  obtain ⟨q, k1, k2, k3⟩ := hb
  unfold eqD
  rw [p2_of h1 k1 h3 k3 hn hk]
  congr 2
  rw [Bool.eq_iff_iff, cl_eqv (n := n) (k := k) h1 k1 h2 k2, h]
theorem neD_cl {n k : Nat} {a b : D} (ha : Cl n a) (hb : Cl k b) {t : Bool} (h : t = true ↔ a = b) (hn : n <= 64 := by decide) (hk : k <= 64 := by decide) : neD a b = some (.bl (!t)) := by
  obtain ⟨p, h1, h2, h3⟩ := ha
  obtain ⟨q, k1, k2, k3⟩ := hb
  unfold neD
  rw [p2_of h1 k1 h3 k3 hn hk]
  congr 3
  rw [Bool.eq_iff_iff, cl_eqv (n := n) (k := k) h1 k1 h2 k2, h]
theorem toPs_mem : ∀ {ds : List D} {ps : List PyData}, toPs ds = some ps -> clnAll ps = true -> ∀ (a : D) (p : PyData), toP a = some p -> cln p = true -> ((ps.any fun z => PyData.eqv z p) = true ↔ a ∈ ds)
  | [], ps, h, _, a, p, _, _ => by cases h; simp
  | d :: ds, ps, h, hc, a, p, ha, hp => by
    rw [toPs] at h
    cases e : toP d with
    | none => rw [e] at h; cases h
    | some q =>
      rw [e] at h
      simp only [Option.bind_some, Option.map_eq_some_iff] at h
      obtain ⟨qs, h2, rfl⟩ := h
      rw [clnAll, Bool.and_eq_true] at hc
      rw [List.any_cons, Bool.or_eq_true, cl_eqv (n := 0) (k := 0) e ha hc.1 hp, toPs_mem h2 hc.2 a p ha hp, List.mem_cons]
      exact ⟨fun z => z.imp (·.symm) id, fun z => z.imp (·.symm) id⟩
theorem anyB_cl {n k : Nat} {a : D} {xs : List D} (ha : Cl n a) (hx : ∀ x ∈ xs, Cl k x) {t : Bool} (h : t = true ↔ a ∈ xs) (hn : n <= 63) (hk : k <= 63) : anyB a (.tup xs) = some t /\ anyB a (.lst xs) = some t := by
  obtain ⟨p, h1, h2, h3⟩ := ha
  obtain ⟨ps, k1, k2, k3⟩ := Cl.all hx
  have e : t = ps.any fun z => PyData.eqv z p := by rw [Bool.eq_iff_iff, h, toPs_mem k1 k2 a p h1 h2]
  constructor
  · unfold anyB
    rw [h1, Option.bind_some, toP, k1, Option.map_some, Option.bind_some, seqP, Option.bind_some, h3.shaped (by omega), (Shp.tuple k3).shaped (by omega), e]
    rfl
  · unfold anyB
    rw [h1, Option.bind_some, toP, k1, Option.map_some, Option.bind_some, seqP, Option.bind_some, h3.shaped (by omega), (Shp.list k3).shaped (by omega), e]
    rfl
theorem inX_lst {n k : Nat} {a : D} {xs : List D} (ha : Cl n a) (hx : ∀ x ∈ xs, Cl k x) {t : Bool} (h : t = true ↔ a ∈ xs) (hn : n <= 63 := by decide) (hk : k <= 63 := by decide) : inX a (.lst xs) = some (.bl t) := by
  unfold inX; rw [(anyB_cl ha hx h hn hk).2]; rfl
def Rp (w n : Nat) (d : D) : Prop := ∃ p, toP d = some p /\ Sh p w n
theorem Rp.mono {w n w' n' : Nat} {d : D} (h : Rp w n d) (hw : w <= w') (hn : n <= n') : Rp w' n' d := by
  obtain ⟨p, h1, h2⟩ := h
  exact ⟨p, h1, h2.mono hw hn⟩
theorem Rp.non : Rp 4 0 .non := ⟨_, rfl, Sh.none⟩
theorem Rp.bl (b : Bool) : Rp 5 0 (.bl b) := ⟨_, rfl, Sh.bool b⟩
theorem Rp.int {i : Int} (h : i.natAbs < 10 ^ 25) : Rp 26 0 (.int i) := ⟨_, rfl, Sh.int h (by decide) (by decide)⟩
theorem Rp.str {x : Str} (h : PyData.strOk x = true) : Rp (10 * x.length + 2) 0 (.str x) := ⟨_, rfl, Sh.str h⟩
theorem Rp.all {w n : Nat} : ∀ {ds : List D}, (∀ d ∈ ds, Rp w n d) -> ∃ ps, toPs ds = some ps /\ ps.length = ds.length /\ ∀ p ∈ ps, Sh p w n
  | [], _ => ⟨[], rfl, rfl, fun _ h => nomatch h⟩
  | d :: ds, h => by
    obtain ⟨p, h1, h2⟩ := h d (.head _)
    obtain ⟨ps, k1, k2, k3⟩ := Rp.all fun x hx => h x (.tail _ hx)
    refine ⟨p :: ps, by rw [toPs, h1, Option.bind_some, k1]; rfl, by simp [k2], fun q hq => ?_⟩
    rcases List.mem_cons.mp hq with rfl | hq
    · exact h2
    · exact k3 q hq
theorem Rp.tup {w n k : Nat} {ds : List D} (h : ∀ d ∈ ds, Rp w n d) (l : ds.length <= k) : Rp (w * k + 2 * k + 3) (n + 1) (.tup ds) := by
  obtain ⟨ps, k1, k2, k3⟩ := Rp.all h
  refine ⟨_, by rw [toP, k1]; rfl, (Sh.tuple k3).mono ?_ (Nat.le_refl _)⟩
  rw [k2]
  have := Nat.mul_le_mul_left w l
  omega
theorem Rp.lst {w n k : Nat} {ds : List D} (h : ∀ d ∈ ds, Rp w n d) (l : ds.length <= k) : Rp (w * k + 2 * k + 3) (n + 1) (.lst ds) := by
  obtain ⟨ps, k1, k2, k3⟩ := Rp.all h
  refine ⟨_, by rw [toP, k1]; rfl, (Sh.list k3).mono ?_ (Nat.le_refl _)⟩
  rw [k2]
  have := Nat.mul_le_mul_left w l
  omega
theorem Rp.repr {w n : Nat} {d : D} (h : Rp w n d) (hw : w <= 16000000) (hn : n <= 60) : ∃ z, reprD [d] = some (.str z) := by
  obtain ⟨p, h1, h2⟩ := h
  exact ⟨_, reprD_of (by rw [toR_eq]; exact h1) h2 hw hn⟩
end
section
abbrev S (x : String) : Str := Str.ofString x
theorem lk_T : List.lookup "tuple" ([("NoneType", false), ("bool", false), ("int", false), ("str", false), ("tuple", true), ("list", false), ("dict", false)] : List (String × Bool)) = some true := rfl
theorem c2 : ((2 : Nat) : Int) = 2 := rfl
theorem c3 : ((3 : Nat) : Int) = 3 := rfl
end
section
end
section
def hnd (p e b : Str) : D := .obj (S "Hand") ([S "own_promise", S "own_entry", S "own_back"] : List Str) [.str p, .str e, .str b]
end
section
end
section
theorem okN_of {x : Str} (h : nameB x = true) (ho : PyData.strOk x = true) : OkN x := by
  refine ⟨ho, is_name_ok h, ?_⟩
  unfold nameB at h
  rw [Bool.and_eq_true, decide_eq_true_eq] at h
  exact h.1.2
def alph : Str := Str.ofString "abcdefghijklmnopqrstuvwxyz"
theorem alph_len : alph.cps.size = 26 := by decide +kernel
theorem alph_ok : ∀ c ∈ alph.cps.toList, c < 0x110000 := by decide +kernel
theorem join_nil : ∀ ls : List (List Nat), TL.joinL [] ls = ls.flatten
  | [] => rfl
  | [p] => by simp [TL.joinL]
  | p :: q :: r => by rw [TL.joinL, List.nil_append, join_nil (q :: r)]; simp
theorem join_signs (cs : List Nat) : (Txt.join (Str.ofString "") (cs.map fun c => (⟨#[c]⟩ : Str))).cps.toList = cs := by
  have e := TL.join_eq (Str.ofString "") (cs.map fun c => (⟨#[c]⟩ : Str))
  rw [e]
  have := TL.tl_join (Str.ofString "") (cs.map fun c => (⟨#[c]⟩ : Str))
  unfold TL.tl at this
  rw [this, show (Str.ofString "").cps.toList = [] by decide +kernel, join_nil, List.map_map]
  clear this e
  induction cs with
  | nil => rfl
  | cons c cs ih =>
    rw [List.map_cons, List.flatten_cons, ih]
    rfl
end
section
def dG (xs : Lot) (g : Str -> D) : D := .dct (xs.map Sum.inr) (xs.map g)
end
section
end
section
abbrev W3 := Str × Str × Str
def gw (w : W3) : D := .tup [.str w.1, .str w.2.1, .str w.2.2]
def gh (w : W3) : D := hnd w.1 w.2.1 w.2.2
structure Bk where
  ms : Lot
  A : List Lot
  B : List Lot
  hw : Str -> W3
  md : Str
def sheetKs : List Key := [.inr (S "names"), .inr (S "fists"), .inr (S "elect"), .inr (S "keep"), .inr (S "mode")]
def sheet (b : Bk) : D := .dct sheetKs [.lst (b.ms.map D.str), dG b.ms (fun n => gw (b.hw n)), eLs b.A, eLs b.B, .str b.md]
end
section
def bookNs : List Str := [S "own_hands", S "own_machines", S "own_elect", S "own_keep", S "own_takes"]
def mLp (l : Lot) : D := .ptp (l.map D.str)
def book (b : Bk) : D := .obj (S "Book") bookNs [dG b.ms (fun n => gh (b.hw n)), mLp b.ms, fam b.ms b.A, fam b.ms b.B, .str b.md]
where
  lk_hit' {k : Str} {t : Bool} : ([(k, t)] : List (Str × Bool)).lookup k = some t := by simp only [List.lookup, beq_self_eq_true]
end
section
theorem nin_lst (n : Str) (x : Lot) : ninD (.str n) (.lst (x.map D.str)) = some (.bl (!decide (n ∈ x))) := by
  have h := inD_seqD false n x
  rw [<- seq_lst] at h
  unfold ninD
  unfold inD at h
  simp_all
end
section
theorem forM_first {α : Type} (enc : α -> D) (r : α -> Option D) (I : Sls -> Prop) {a : SG} {b : SS} : ∀ (xs : List α) (G : Sls), I G ->
    (∀ x ∈ xs, ∀ G, I G -> ∃ G1, a G (enc x) = some G1 /\ (∀ d, r x = some d -> b G1 = ret (.ret d)) /\ (r x = none -> ∃ G2, b G1 = ret (.next G2) /\ I G2)) ->
    (∀ d, xs.findSome? r = some d -> forM a b (xs.map enc) G = ret (.ret d)) /\ (xs.findSome? r = none -> ∃ G', forM a b (xs.map enc) G = ret (.next G') /\ I G')
  | [], G, i, _ => ⟨fun d h => by simp at h, fun _ => ⟨G, rfl, i⟩⟩
  | x :: xs, G, i, H => by
    obtain ⟨G1, h1, h2, h3⟩ := H x (.head _) G i
    rw [List.findSome?_cons]
    cases e : r x with
    | some d =>
      refine ⟨fun d' h => ?_, fun h => by cases h⟩
      cases h
      rw [List.map_cons, forM, h1, ofO_some, bnd_ret, h2 d e, bnd_ret]
    | none =>
      obtain ⟨G2, h4, h5⟩ := h3 e
      obtain ⟨k1, k2⟩ := forM_first enc r I xs G2 h5 fun y hy => H y (.tail _ hy)
      refine ⟨fun d h => ?_, fun h => ?_⟩
      · rw [List.map_cons, forM, h1, ofO_some, bnd_ret, h4, bnd_ret]
        exact k1 d h
      · obtain ⟨G', e1, e2⟩ := k2 h
        refine ⟨G', ?_, e2⟩
        rw [List.map_cons, forM, h1, ofO_some, bnd_ret, h4, bnd_ret]
        exact e1
end
section
end
section
end
section
end
section
end
section
end
section
end
end EK
namespace EK
open PySem PySem.Spec PyProof.Rows L2 EK EKL
section
end
end EK
namespace EK
open PySem PySem.Spec PyProof.Rows L2 EKL
section
end
section
end
section
end
section
end
section
end
section
end
section
end
section
end
section
end
end EK
namespace EKB
open PySem PySem.Spec PyProof.Rows L2 EK EKL
section
theorem mixed_run {s : DS} (o : OkS s) (l : s.turn + 1 <= LIM) : Run s (m_law_mixed [.drw]) fun d s' => (∃ i, d = .int i /\ 0 <= i) /\ s' = { s with turn := s.turn + 1 } := by
  have ht := o.t
  unfold LIM at l
  simp! [m_law_mixed, b_law_mixed, gDr, sDr, drwAt]
  refine Run.eq (a := .int s.turn) rfl ?_
  simp! []
  refine Run.bnd (P := fun o s' => o = .next [some (.fz .drw), some (.fz (.int (s.turn + 1))), some (.fz (.int 0)), none, none, none] /\ s' = { s with turn := s.turn + 1 }) ⟨_, _, rfl, rfl, rfl⟩ ?_
  rintro a s' ⟨rfl, rfl⟩
  simp! []
  rw [show [D.int 2147483647, D.int 2147483629, D.int 2147483587, D.int 2147483579] = ([2147483647, 2147483629, 2147483587, 2147483579] : List Int).map D.int from rfl]
  refine Run.bnd (Run.forI D.int (fun G => ∃ f u v w, 0 <= f /\ G = [some (.fz .drw), some (.fz (.int (s.turn + 1))), some (.fz (.int f)), u, v, w]) _ _ ⟨0, none, none, none, by decide, rfl⟩ ?_) ?_
  · rintro p hp G ⟨f, u, v, w, hf, rfl⟩
    have hp : 0 < p /\ p < 2147483648 := by
      simp only [List.mem_cons, List.not_mem_nil, or_false] at hp
      omega
    refine ⟨_, rfl, ?_⟩
    simp! [mulD_l (i := 69621) (j := s.turn + 1) (by omega), fdivD_of (i := p) (j := 23) (by omega), sForC, drwAt]
    refine Run.bnd (Run.forI D.int (fun G => ∃ b w, 0 <= b /\ b < 2 ^ 63 /\ G = [some (.fz .drw), some (.fz (.int (s.turn + 1))), some (.fz (.int f)), some (.fz (.int p)), some (.fz (.int b)), w]) _ _ ⟨69621 * (s.turn + 1) + p / 23, w, by omega, by omega, rfl⟩ ?_) ?_
    · rintro c hc G ⟨b, w, hb0, hb, rfl⟩
      refine ⟨_, rfl, ?_⟩
      simp! [mulD_r (i := b) (j := 48271) (by omega), modD_of hp.1]
      exact Run.ret ⟨_, rfl, ⟨_, _, Int.emod_nonneg _ (by omega), Int.lt_trans (Int.emod_lt_of_pos _ hp.1) (by omega), rfl⟩, rfl⟩
    · rintro a s' ⟨G2, rfl, ⟨b, w, hb0, hb, rfl⟩, rfl⟩
      simp! [mulD_r (i := f) (j := 2147483647) (by omega), powD_of (i := b) (j := 5) ⟨by omega, by omega, by omega⟩, modD_of hp.1]
      refine Run.ret ⟨_, rfl, ⟨_, _, _, _, ?_, rfl⟩, rfl⟩
      have := Int.emod_nonneg (b ^ (5 : Int).toNat) (show p ≠ 0 by omega)
      omega
  · rintro a s' ⟨G2, rfl, ⟨f, u, v, w, hf, rfl⟩, rfl⟩
    simp! []
    exact Run.ret ⟨⟨f, rfl, hf⟩, rfl⟩
theorem take_tr {k : Int} (h0 : 0 < k) (h1 : k < 1073741824) : Tr 1 (m_law_take [.drw, .int k]) fun d => ∃ i : Nat, d = .int i /\ (i : Int) < k := by
  intro s o l
  have l' : s.turn + 1 <= LIM := l
  have key : Run s (m_law_take [.drw, .int k]) fun d s' => (∃ i : Nat, d = .int i /\ (i : Int) < k) /\ OkK s s' /\ s'.turn <= s.turn + 1 := by
    simp only [m_law_take, b_law_take, runB, startG, List.map_cons, List.map_nil, List.length_cons, List.length_nil, Nat.reduceAdd, Nat.reduceSub, List.replicate, List.cons_append, List.nil_append]
    rw [sSeq, bnd_assoc]
    refine Run.bnd (P := fun o s' => o = .next [some (.fz .drw), some (.fz (.int k)), none] /\ OkK s s' /\ s'.turn <= s.turn + 1) ?_ ?_
    · simp! [gDr, sDr, drwAt]
      refine Run.eq (a := .int s.rest) rfl ?_
      simp! []
      split
      · refine Run.eq (a := decide (s.wide ≠ [])) rfl ?_
        cases hw : s.wide with
        | nil =>
          simp! [ne_eq, not_true_eq_false, decide_false]
          refine Run.bnd (mixed_run o l') ?_
          rintro a s' ⟨⟨i, rfl, hi⟩, rfl⟩
          exact ⟨_, _, rfl, rfl, ⟨⟨o.w, o.c, hi, by have := o.t; show 0 <= s.turn + 1; omega⟩, rfl, rfl⟩, by show s.turn + 1 <= _; omega⟩
        | cons x r =>
          simp! [ne_eq, List.cons_ne_nil, reduceCtorEq, not_false_eq_true]
          refine Run.bnd (P := fun d s' => d = .int x /\ s' = { s with wide := r }) ⟨.int x, { s with wide := r }, by unfold popM; rw [hw], rfl, rfl⟩ ?_
          rintro a s' ⟨rfl, rfl⟩
          have hx := o.w x (by rw [hw]; exact .head _)
          exact ⟨_, _, rfl, rfl, ⟨⟨fun y hy => o.w y (by rw [hw]; exact .tail _ hy), o.c, hx, o.t⟩, rfl, rfl⟩, by show s.turn <= _; omega⟩
      · exact Run.ret ⟨rfl, .refl o, by omega⟩
    · rintro a s' ⟨rfl, o', t'⟩
      simp! [gDr, sDr, drwAt]
      refine Run.eq (a := .int s'.rest) rfl ?_
      simp! [modD_of h0]
      refine Run.eq (a := .int s'.rest) rfl ?_
      simp! [fdivD_of ⟨h0, h1⟩]
      refine Run.bnd (P := fun o s'' => o = .next [some (.fz .drw), some (.fz (.int k)), some (.fz (.int (s'.rest % k)))] /\ s'' = { s' with rest := s'.rest / k }) ⟨_, _, rfl, rfl, rfl⟩ ?_
      rintro a s'' ⟨rfl, rfl⟩
      simp! []
      have a0 := Int.emod_nonneg s'.rest (show k ≠ 0 by omega)
      have a1 := Int.emod_lt_of_pos s'.rest h0
      have a2 := Int.ediv_nonneg o'.r (show 0 <= k by omega)
      exact Run.ret ⟨⟨(s'.rest % k).toNat, by rw [Int.toNat_of_nonneg a0], by omega⟩, ⟨⟨o'.w, o'.c, a2, o'.t⟩, o'.ob, o'.lv⟩, t'⟩
  obtain ⟨d, s', e, h1, h2, h3⟩ := key
  exact ⟨d, s', e, h2, h3, h1⟩
theorem pick_tr (t : Bool) {xs : List D} (h0 : xs ≠ []) (h1 : xs.length < 1073741824) : Tr 1 (m_law_pick [.drw, seqD t xs]) fun y => y ∈ xs := by
  simp! [m_law_pick, b_law_pick, lenD_seqD]
  have hp : 0 < xs.length := List.length_pos_iff.mpr h0
  refine Tr.le (Tr.bnd (take_tr (by omega) (by omega)) (j := 0) fun a ⟨i, e, hi⟩ => ?_) (by omega)
  subst e
  have hi' : i < xs.length := by omega
  simp! [ixD_seqD hi']
  exact Tr.ret (List.getElem_mem hi')
theorem pick1 {xs : List D} (h0 : xs ≠ []) (h1 : xs.length < 1073741824) : Tr 1 (m_law_pick [.drw, .lst xs]) fun y => y ∈ xs := pick_tr false h0 h1
end
section
theorem alphL : alph.cps.toList.length = 26 := by rw [Array.length_toList]; exact alph_len
theorem pick_str : Tr 1 (m_law_pick [.drw, .str alph]) fun y => ∃ c ∈ alph.cps.toList, y = .str ⟨#[c]⟩ := by
  have hl : lenD [.str alph] = some (.int 26) := by
    show ((if alph.length <= PySem.sizeLine then some alph.length else none).map fun (n : Nat) => D.int (n : Int)) = _
    rw [show alph.length = 26 from alph_len, sizeLine_eq]
    rfl
  simp! [m_law_pick, b_law_pick, hl]
  refine Tr.le (Tr.bnd (take_tr (k := 26) (by omega) (by omega)) (j := 0) fun a ⟨i, e, hi⟩ => ?_) (by omega)
  subst e
  have hs : alph.cps.toList.length = 26 := by rw [Array.length_toList]; exact alph_len
  have hi' : i < alph.cps.toList.length := by omega
  have hx : ixD (.str alph) (.int (i : Int)) = some (.str ⟨#[alph.cps.toList[i]]⟩) := by
    show (if alph.length <= PySem.sizeLine then (atI alph.cps.toList (i : Int)).map fun c => D.str ⟨#[c]⟩ else none) = _
    rw [if_pos (by rw [show alph.length = 26 from alph_len, sizeLine_eq]; decide), atI_nat hi']
    rfl
  simp! [hx]
  exact Tr.ret ⟨_, List.getElem_mem hi', rfl⟩
def TN (n : Str) : Prop := nameB n = true /\ PyData.strOk n = true
theorem tn_of {x : Str} (h1 : 1 <= x.cps.toList.length) (h6 : x.cps.toList.length <= 6) (h : ∀ c ∈ x.cps.toList, c ∈ alph.cps.toList) : TN x := by
  refine ⟨?_, ?_⟩
  · unfold nameB
    rw [Bool.and_eq_true, decide_eq_true_eq]
    have l : x.length = x.cps.toList.length := by rw [Array.length_toList]; rfl
    rw [l]
    exact ⟨⟨h1, h6⟩, List.all_eq_true.mpr fun c hc => decide_eq_true (h c hc)⟩
  · show x.cps.all (· < 0x110000) = true
    rw [<- Array.all_toList]
    exact List.all_eq_true.mpr fun c hc => decide_eq_true (alph_ok c (h c hc))
theorem TN.letters {x : Str} (h : TN x) : 1 <= x.cps.toList.length /\ x.cps.toList.length <= 6 /\ ∀ c ∈ x.cps.toList, c ∈ alph.cps.toList := by
  have q := h.1
  unfold nameB at q
  rw [Bool.and_eq_true, decide_eq_true_eq, List.all_eq_true] at q
  have l : x.length = x.cps.toList.length := by rw [Array.length_toList]; rfl
  rw [l] at q
  exact ⟨q.1.1, q.1.2, fun c hc => of_decide_eq_true (q.2 c hc)⟩
def titles12 : Lot := ["a", "b", "c", "d", "e", "x", "aa", "once", "lot", "keep", "elect", "barred"].map Str.ofString
theorem titles_ok : ∀ n ∈ titles12, TN n := by
  have : (titles12.all fun n => nameB n && PyData.strOk n) = true := by decide +kernel
  intro n hn
  have := List.all_eq_true.mp this n hn
  rw [Bool.and_eq_true] at this
  exact this
theorem signs_map {ds : List D} (h : ∀ d ∈ ds, ∃ c ∈ alph.cps.toList, d = .str ⟨#[c]⟩) : ∃ cs : List Nat, ds = cs.map (fun c => D.str ⟨#[c]⟩) /\ ∀ c ∈ cs, c ∈ alph.cps.toList := by
  induction ds with
  | nil => exact ⟨[], rfl, fun c hc => (by cases hc)⟩
  | cons d ds ih =>
    obtain ⟨c, hc, rfl⟩ := h d (.head _)
    obtain ⟨cs, rfl, q⟩ := ih fun x hx => h x (.tail _ hx)
    refine ⟨c :: cs, rfl, fun x hx => ?_⟩
    rcases List.mem_cons.mp hx with rfl | hx
    · exact hc
    · exact q x hx
theorem title_tr : Tr 10 (m_law_title [.drw]) fun d => ∃ n, d = .str n /\ TN n := by
  simp! [m_law_title, b_law_title]
  refine Tr.le (Tr.bnd (take_tr (k := 3) (by omega) (by omega)) (j := 9) fun y ⟨n, e, hn⟩ => ?_) (by decide)
  subst e
  by_cases z : (0 : Int) < (n : Int)
  · simp! [z]
    refine Tr.le (Tr.bnd (pick1 (by simp) (by simp)) (j := 0) fun d hd => ?_) (by decide)
    have : ∃ n ∈ titles12, d = .str n := by
      simp only [List.mem_cons, List.not_mem_nil, or_false] at hd
      rcases hd with rfl | rfl | rfl | rfl | rfl | rfl | rfl | rfl | rfl | rfl | rfl | rfl
      · exact ⟨_, .head _, rfl⟩
      · exact ⟨_, .tail _ (.head _), rfl⟩
      · exact ⟨_, .tail _ (.tail _ (.head _)), rfl⟩
      · exact ⟨_, .tail _ (.tail _ (.tail _ (.head _))), rfl⟩
      · exact ⟨_, .tail _ (.tail _ (.tail _ (.tail _ (.head _)))), rfl⟩
      · exact ⟨_, .tail _ (.tail _ (.tail _ (.tail _ (.tail _ (.head _))))), rfl⟩
      · exact ⟨_, .tail _ (.tail _ (.tail _ (.tail _ (.tail _ (.tail _ (.head _)))))), rfl⟩
      · exact ⟨_, .tail _ (.tail _ (.tail _ (.tail _ (.tail _ (.tail _ (.tail _ (.head _))))))), rfl⟩
      · exact ⟨_, .tail _ (.tail _ (.tail _ (.tail _ (.tail _ (.tail _ (.tail _ (.tail _ (.head _)))))))), rfl⟩
      · exact ⟨_, .tail _ (.tail _ (.tail _ (.tail _ (.tail _ (.tail _ (.tail _ (.tail _ (.tail _ (.head _))))))))), rfl⟩
      · exact ⟨_, .tail _ (.tail _ (.tail _ (.tail _ (.tail _ (.tail _ (.tail _ (.tail _ (.tail _ (.tail _ (.head _)))))))))), rfl⟩
      · exact ⟨_, .tail _ (.tail _ (.tail _ (.tail _ (.tail _ (.tail _ (.tail _ (.tail _ (.tail _ (.tail _ (.tail _ (.head _))))))))))), rfl⟩
    obtain ⟨n, hn, rfl⟩ := this
    exact Tr.ret ⟨n, rfl, titles_ok n hn⟩
  · simp! [z, decide_false, gJoin, txt]
    refine Tr.le (Tr.bnd (take_tr (k := 6) (by omega) (by omega)) (j := 8) fun y ⟨m, e, hm⟩ => ?_) (by decide)
    subst e
    simp! [show (1 : Int) + (m : Int) = ((1 + m : Nat) : Int) by omega, rng1_int (i := ((1 + m : Nat) : Int)) (n := 1 + m) rfl (by omega)]
    refine Tr.le (Tr.bnd (Tr.noErr (Tr.lc 1 (fun d => ∃ c ∈ alph.cps.toList, d = .str ⟨#[c]⟩) (fun (i : Nat) => D.int (i : Int)) (List.range (1 + m)) fun i _ => ?_)) (j := 0) fun ds ⟨hl, hd⟩ => ?_) (by rw [List.length_range]; omega)
    · simp! []
      refine Tr.le (Tr.bnd pick_str (j := 0) fun d hd => ?_) (by decide)
      exact Tr.ret ⟨_, rfl, hd⟩
    · obtain ⟨cs, rfl, hc⟩ := signs_map hd
      rw [List.length_map, List.length_range] at hl
      have tx : txts (.lst (cs.map fun c => D.str ⟨#[c]⟩)) = some (cs.map fun c => (⟨#[c]⟩ : Str)) := txts_map (by rw [itemsTL_lst, List.map_map]; rfl)
      have jn : joinD (Str.ofString "") (.lst (cs.map fun c => D.str ⟨#[c]⟩)) = some (.str (Txt.join (Str.ofString "") (cs.map fun c => (⟨#[c]⟩ : Str)))) := by
        unfold joinD
        rw [tx, Option.bind_some]
        refine if_pos ?_
        have l1 : ∀ cs : List Nat, ((cs.map fun c => (⟨#[c]⟩ : Str)).map (·.length)).sum = cs.length := by
          intro cs
          induction cs with
          | nil => rfl
          | cons c cs ih => rw [List.map_cons, List.map_cons, List.sum_cons, ih, List.length_cons]; show 1 + cs.length = _; omega
        rw [l1, List.length_map, show (Str.ofString "").length = 0 by decide +kernel]
        omega
      simp! [jn]
      have e := join_signs cs
      generalize Txt.join (Str.ofString "") (cs.map fun c => (⟨#[c]⟩ : Str)) = x at e
      exact Tr.ret ⟨x, rfl, tn_of (by rw [e]; omega) (by rw [e]; omega) (by rw [e]; exact hc)⟩
def zz : Str := Str.ofString "z"
def nearT (n : Str) (c : Nat) : Str := (cutS n none (some 4) ++ (⟨#[c]⟩ : Str)) ++ zz
theorem near_cps (n : Str) (c : Nat) : (nearT n c).cps.toList = n.cps.toList.take 4 ++ [c] ++ [122] := by
  have h1 : (cutS n none (some 4)).cps.toList = n.cps.toList.take 4 := by
    unfold cutS
    rw [HT.sIx_none, show (some (4 : Int)) = some ((4 : Nat) : Int) from rfl, HT.sIx_nat]
    have l : n.length = n.cps.toList.length := by rw [Array.length_toList]; rfl
    rw [l]
    by_cases h : 4 <= n.cps.toList.length
    · rw [Nat.min_eq_left h]; simp
    · rw [Nat.min_eq_right (by omega)]
      simp only [List.drop_zero, Nat.sub_zero]
      rw [List.take_of_length_le (Nat.le_refl _), List.take_of_length_le (by omega)]
  have h2 : zz.cps.toList = [122] := by decide +kernel
  have ap : ∀ x y : Str, (x ++ y).cps.toList = x.cps.toList ++ y.cps.toList := fun x y => by
    show (x.cps ++ y.cps).toList = _
    rw [Array.toList_append]
  unfold nearT
  rw [ap, ap, h1, h2]
theorem near_tn {n : Str} (h : TN n) {c : Nat} (hc : c ∈ alph.cps.toList) : TN (nearT n c) := by
  obtain ⟨h1, h6, ha⟩ := h.letters
  refine tn_of ?_ ?_ ?_
  · rw [near_cps]; simp
  · rw [near_cps]; simp; omega
  · rw [near_cps]
    intro x hx
    rw [List.mem_append, List.mem_append, List.mem_singleton, List.mem_singleton] at hx
    rcases hx with (hx | rfl) | rfl
    · exact ha x (List.mem_of_mem_take hx)
    · exact hc
    · decide +kernel
theorem near_inj (n : Str) {c d : Nat} (h : nearT n c = nearT n d) : c = d := by
  have e := congrArg (fun x : Str => x.cps.toList) h
  simp only [near_cps] at e
  have := List.append_cancel_right e
  have := List.append_cancel_left this
  injection this
def nears (n : Str) : Lot := n :: alph.cps.toList.map (nearT n)
theorem nears_free {n : Str} {f : Lot} (hf : f.length <= 20) : ∃ m r, (nears n).filter (fun x => !decide (x ∈ f)) = m :: r := by
  cases e : (nears n).filter (fun x => !decide (x ∈ f)) with
  | cons m r => exact ⟨m, r, rfl⟩
  | nil =>
    exfalso
    rw [List.filter_eq_nil_iff] at e
    have sub : ∀ x ∈ alph.cps.toList.map (nearT n), x ∈ f := fun x hx => by
      have := e x (.tail _ hx)
      simpa using this
    have nd : (alph.cps.toList.map (nearT n)).Nodup := by
      have : alph.cps.toList.Nodup := by decide +kernel
      exact List.pairwise_map.mpr (this.imp fun ne h => ne (near_inj n h))
    have := len_le_of_sub nd sub
    rw [List.length_map, Array.length_toList, alph_len] at this
    omega
theorem nears_tn {n : Str} (h : TN n) : ∀ x ∈ nears n, TN x := fun x hx => by
  rcases List.mem_cons.mp hx with rfl | hx
  · exact h
  · obtain ⟨c, hc, rfl⟩ := List.mem_map.mp hx
    exact near_tn h hc
theorem frz_own {i : Nat} {G : Sls} {ds : List D} (h : G[i]? = some (some (.own ds))) : frz i G = G.set i (some (.fz (.lst ds))) := by unfold frz; rw [h]
theorem len6 {n : Str} (h : TN n) : n.length <= 6 := by
  have := h.letters.2.1
  rw [Array.length_toList] at this
  exact this
theorem labels_tr {k : Nat} (h1 : 1 <= k) (h5 : k <= 5) : Tr 60 (m_law_labels [.drw, .int (k : Int)]) fun y => ∃ x, y = .lst (x.map D.str) /\ Names x /\ x.length = k := by
  simp! [m_law_labels, b_law_labels, rng1_int (i := (k : Int)) (n := k) rfl (by omega)]
  refine Tr.le (Tr.bnd (Tr.forI 10 (fun (i : Nat) => D.int (i : Int)) (fun i G => ∃ (f : Lot) (a4 a5 a6 : Option Sl), f.length = i /\ f.Nodup /\ (∀ n ∈ f, TN n) /\ G = [some (.fz .drw), some (.fz (.int (k : Int))), some (.own (f.map D.str)), some (.fz (.str alph)), a4, a5, a6, none, none]) k (List.range k) 0 _ (by rw [List.length_range]; omega) ⟨[], none, none, none, rfl, .nil, fun n hn => (by cases hn), rfl⟩ ?_) (j := 0) ?_) (by rw [List.length_range]; omega)
  · rintro i G x hx hi ⟨f, a4, a5, a6, fl, nd, ft, rfl⟩
    refine ⟨_, rfl, ?_⟩
    simp! []
    refine Tr.le (Tr.bnd title_tr (j := 0) fun y ⟨n, e, hn⟩ => ?_) (by decide)
    subst e
    have sl : sliceT none (some 4) (.str n) = some (.str (cutS n none (some 4))) := by
      show (if n.length <= PySem.sizeLine then some (D.str (cutS n none (some 4))) else none) = _
      rw [if_pos (by rw [sizeLine_eq]; have := len6 hn; omega)]
    have ad : ∀ c, addD (.str (cutS n none (some 4))) (.str ⟨#[c]⟩) = some (.str (cutS n none (some 4) ++ (⟨#[c]⟩ : Str))) := fun c => by
      show (if (cutS n none (some 4)).length + (⟨#[c]⟩ : Str).length <= PySem.sizeLine then some (D.str _) else none) = _
      have : (cutS n none (some 4)).length <= n.length := by
        show (cutS n none (some 4)).cps.size <= n.cps.size
        unfold cutS
        simp
        omega
      rw [if_pos (by rw [sizeLine_eq]; have := len6 hn; show _ + 1 <= _; omega)]
    have ad2 : ∀ c, addD (.str (cutS n none (some 4) ++ (⟨#[c]⟩ : Str))) (.str zz) = some (.str (nearT n c)) := fun c => by
      show (if (cutS n none (some 4) ++ (⟨#[c]⟩ : Str)).length + zz.length <= PySem.sizeLine then some (D.str _) else none) = _
      have : (cutS n none (some 4)).length <= n.length := by
        show (cutS n none (some 4)).cps.size <= n.cps.size
        unfold cutS
        simp
        omega
      have l2 : (cutS n none (some 4) ++ (⟨#[c]⟩ : Str)).length = (cutS n none (some 4)).length + 1 := by
        show ((cutS n none (some 4)).cps ++ #[c]).size = _
        rw [Array.size_append]; rfl
      rw [if_pos (by rw [sizeLine_eq, l2, show zz.length = 1 by decide +kernel]; have := len6 hn; omega)]
      rfl
    have it : itemsOf (.str alph) = some (alph.cps.toList.map fun c => D.str ⟨#[c]⟩) := by
      show (if alph.cps.size <= 1000000 then some (chars alph) else none) = _
      rw [if_pos (by rw [alph_len]; decide)]
      rfl
    simp! [it]
    rw [lcM_map (fun c : Nat => D.str ⟨#[c]⟩) (fun c => .str (nearT n c)) alph.cps.toList fun c _ => by
      simp! [gSlT, sl, ad, show Str.ofString "z" = zz from rfl, ad2]]
    simp! []
    rw [addD_lst [D.str n] _ (by simp only [List.length_cons, List.length_nil, List.length_map, alphL]; rw [sizeLine_eq]; decide), ofO_some, bnd_ret]
    rw [show [D.str n] ++ alph.cps.toList.map (fun c => D.str (nearT n c)) = (nears n).map D.str by unfold nears; rw [List.map_cons, List.map_map]; rfl]
    obtain ⟨m, r, em⟩ := nears_free (n := n) (f := f) (by omega)
    have mm : m ∈ nears n /\ m ∉ f := by
      have : m ∈ (nears n).filter (fun x => !decide (x ∈ f)) := by rw [em]; exact .head _
      simpa using List.mem_filter.mp this
    simp! [lendO, sApp, frz_own (G := [some (.fz .drw), some (.fz (.int (k : Int))), some (.own (f.map D.str)), some (.fz (.str alph)), some (.fz (.int (x : Int))), some (.fz (.str n)), some (.fz (.lst ((nears n).map D.str))), none, none]) (i := 2) (ds := f.map D.str) rfl]
    rw [lcM_filter D.str (fun q => !decide (q ∈ f)) (nears n) fun q _ => by
      simp! [nin_lst]
      cases decide (q ∈ f) <;> rfl]
    have hx0 : ixD (.lst (D.str m :: r.map D.str)) (.int 0) = some (.str m) := ixD_lst (i := 0) (by simp)
    simp! [em, hx0, flatD, List.length_map, show (f.length < PySem.sizeLine) = True from eq_true (by rw [sizeLine_eq]; omega)]
    refine Tr.ret ⟨_, rfl, f ++ [m], _, _, _, by rw [List.length_append, fl]; rfl, ?_, fun q hq => ?_, by rw [List.map_append]; rfl⟩
    · exact List.nodup_append.mpr ⟨nd, List.pairwise_singleton _ _, fun a ha b hb e => mm.2 (by rw [List.mem_singleton.mp hb] at e; rw [<- e]; exact ha)⟩
    · rcases List.mem_append.mp hq with hq | hq
      · exact ft q hq
      · rw [List.mem_singleton.mp hq]; exact nears_tn hn m mm.1
  · rintro o ⟨G', rfl, f, a4, a5, a6, fl, nd, ft, rfl⟩
    rw [List.length_range, Nat.zero_add] at fl
    simp! [sortedD_names (itemsTL_lst _)]
    have len : (sortS f).length = k := by
      unfold sortS
      rw [List.length_mergeSort, fl]
    exact Tr.ret ⟨_, rfl, ⟨sortS_asc nd, by omega, by omega, fun n hn => okN_of (ft n (mem_sortS.mp hn)).1 (ft n (mem_sortS.mp hn)).2⟩, len⟩
end
section
structure Lots (ms : Lot) (L : List Lot) : Prop where
  ne : L ≠ []
  lot : ∀ l ∈ L, LotOf ms l
  n0 : ∀ l ∈ L, l ≠ []
  len : L.length <= 32
end
section
theorem least_ne {ms : Lot} {L : List Lot} (h : Lots ms L) : leastOf L ≠ [] := by
  obtain ⟨x, r, e⟩ : ∃ x r, L = x :: r := by
    cases q : L with
    | nil => exact absurd q h.ne
    | cons x r => exact ⟨x, r, rfl⟩
  intro z
  have := hol_leastOf (xs := L) (fun y hy => (h.lot y hy).asc) x
  rw [z, e] at this
  have t : hol (x :: r) x = true := hol_iff.mpr ⟨x, .head _, inside_refl x⟩
  rw [t] at this
  cases this
end
section
end
end EKB
set_option maxHeartbeats 2000000
namespace EKB
open PySem PySem.Spec PyProof.Rows L2 EK EKL
section
abbrev PL : Type := List Lot × List Lot
def eI (i : Nat) : D := .int (i : Int)
def eR (r : List Nat) : D := .tup (r.map eI)
structure POk (ms : Lot) (p : PL) : Prop where
  e : Lots ms p.1
  k : Lots ms p.2
def allMeet (L : List Lot) (h : Lot) : Bool := !L.any fun l => decide (com l h = [])
def keepAt (P : List PL) (s : Nat) : List Lot := (P.getD s ([], [])).2
def elecAt (P : List PL) (j : Nat) : List Lot := leastOf (P.getD j ([], [])).1
def rowP (P : List PL) (r : List Nat) : List PL := r.map fun i => P.getD i ([], [])
theorem up0 (n : Nat) : upFrom 0 n = (List.range n).map eI := by
  unfold upFrom
  refine List.map_congr_left fun i _ => ?_
  show D.int (0 + (i : Int)) = _
  rw [Int.zero_add]; rfl
theorem tupR_ok {i : Int} {n : Nat} (e : i = (n : Int)) (h : n < 1000) : tupR (.int i) = some (eR (List.range n)) := by
  subst e
  show (if -1000000 <= (n : Int) /\ (n : Int) < 1000000 then some (D.tup (upFrom 0 (n : Int).toNat)) else none) = _
  rw [if_pos (by omega), Int.toNat_natCast, up0]; rfl
theorem settled_ok {n : Nat} (h1 : 1 <= n) (h : n < 1000) : tupR (.int ((n : Int) - 1)) = some (eR (List.range (n - 1))) := tupR_ok (by omega) (by omega)
theorem ixP {α : Type} (f : α -> D) {P : List α} {d : α} {i : Nat} (h : i < P.length) : ixD (.lst (P.map f)) (eI i) = some (f (P.getD i d)) := by
  refine (atI_ofNat (xs := P.map f) (j := i) (by rw [List.length_map]; exact h)).trans ?_
  rw [List.getElem_map, List.getD_eq_getElem?_getD, List.getElem?_eq_getElem h]; rfl
theorem ixPT {α : Type} (f : α -> D) {P : List α} {d : α} {i : Nat} (h : i < P.length) : ixD (.tup (P.map f)) (eI i) = some (f (P.getD i d)) := by
  refine (atI_ofNat (xs := P.map f) (j := i) (by rw [List.length_map]; exact h)).trans ?_
  rw [List.getElem_map, List.getD_eq_getElem?_getD, List.getElem?_eq_getElem h]; rfl
theorem rangeI {i : Int} {n : Nat} (e : i = (n : Int)) (h : n < 1000000) : rng1 [.int i] = some ((List.range n).map eI) := rng1_int e h
theorem itemsR (r : List Nat) : itemsOf (eR r) = some (r.map eI) := itemsOf_tup _
theorem lenR (r : List Nat) : lenD [eR r] = some (.int (r.length : Int)) := by unfold eR; rw [lenD_tup, List.length_map]
theorem ltN (a b : Nat) : ltI (eI a) (eI b) = some (.bl (decide (a < b))) := by
  show some (D.bl (decide ((a : Int) < (b : Int)))) = _
  congr 2
  rw [decide_eq_decide]; omega
theorem miss_nil {L : List Lot} (h : Lot) : decide (L.filter (fun l => decide (com l h = [])) = []) = allMeet L h := by
  unfold allMeet
  rw [Bool.eq_iff_iff, decide_eq_true_eq, List.filter_eq_nil_iff, Bool.not_eq_true', List.any_eq_false]
theorem mem_getD {P : List PL} {s : Nat} (hs : s < P.length) : P.getD s ([], []) ∈ P := by
  rw [List.getD_eq_getElem?_getD, List.getElem?_eq_getElem hs]
  exact List.getElem_mem hs
theorem rowP_len (P : List PL) (r : List Nat) : (rowP P r).length = r.length := by unfold rowP; rw [List.length_map]
theorem rowP_ok {ms : Lot} {P : List PL} (hP : ∀ p ∈ P, POk ms p) {r : List Nat} (hr : ∀ i ∈ r, i < P.length) : ∀ p ∈ rowP P r, POk ms p := fun p hp => by
  obtain ⟨i, hi, rfl⟩ := List.mem_map.mp hp
  exact hP _ (mem_getD (hr i hi))
def fP (ms : Lot) (p : PL) : D := .tup [fam ms (leastOf p.1), fam ms (leastOf p.2)]
def pD (t : Bool) (ms : Lot) (P : List PL) : D := seqD t (P.map (fP ms))
theorem ixF (t : Bool) (ms : Lot) {P : List PL} {i : Nat} (h : i < P.length) : ixD (pD t ms P) (eI i) = some (fP ms (P.getD i ([], []))) := by
  cases t
  · exact ixP (fP ms) h
  · exact ixPT (fP ms) h
theorem lenF (t : Bool) (ms : Lot) (P : List PL) : lenD [pD t ms P] = some (.int (P.length : Int)) := by
  unfold pD
  rw [lenD_seqD, List.length_map]
theorem do_miss_ok {a : Lot} (b : Lot) : m_do_miss [eL a, eL b] = EK.ret (.bl (decide (com a b = []))) := by
  simp! [m_do_miss, b_do_miss, itemsOf_eL]
  rw [lcM_map D.str (fun n => .bl (decide (n ∈ b))) a fun n hn => by simp! [inD_eL]]
  simp! [anyD_map]
  congr 2
  rw [Bool.eq_iff_iff, Bool.not_eq_true', List.any_eq_false, decide_eq_true_eq, List.eq_nil_iff_forall_not_mem]
  constructor
  · intro h n hn
    obtain ⟨h1, h2⟩ := mem_com.mp hn
    exact h n h1 (decide_eq_true h2)
  · intro h n hn z
    exact h n (mem_com.mpr ⟨hn, of_decide_eq_true z⟩)
def missD (A : List Lot) (h : Lot) : D := match A.filter fun l => decide (com l h = []) with
  | [] => .non
  | l :: _ => eL l
theorem missing_ok {ms : Lot} {A : List Lot} (hA : ∀ l ∈ A, NOk l) (h : Lot) : m_missing_lot [fam ms A, eL h] = EK.ret (missD A h) := by
  simp! [m_missing_lot, b_missing_lot, isC_fam, least_ok, itemsOf_eLs]
  rw [lcM_filter eL (fun l => decide (com l h = [])) A fun l hl => by
    simp! [do_miss_ok]
    split <;> rfl]
  have ez := neD_nilLs (L := A.filter fun l => decide (com l h = [])) fun l hl => hA l (List.mem_filter.mp hl).1
  simp! [lst_eLs, ez]
  unfold missD
  cases e : A.filter fun l => decide (com l h = []) with
  | nil => simp! [e]
  | cons l r =>
    have i0 : ixD (eLs (l :: r)) (.int 0) = some (eL l) := ixD_lst (xs := (l :: r).map eL) (i := 0) (by simp)
    simp! [e, reduceCtorEq, decide_false, Bool.not_false, i0]
theorem miss_cl {A : List Lot} (hA : ∀ l ∈ A, NOk l) (h : Lot) : Cl 1 (missD A h) := by
  unfold missD
  cases e : A.filter fun l => decide (com l h = []) with
  | nil => exact Cl.non.mono (by decide)
  | cons l r =>
    have hl : l ∈ A := (List.mem_filter.mp (by rw [e]; exact .head _)).1
    exact Cl.tup (n := 0) fun d hd => by
      obtain ⟨n, hn, rfl⟩ := List.mem_map.mp hd
      exact Cl.str (hA l hl n hn)
theorem miss_non {A : List Lot} (h : Lot) : missD A h = .non ↔ allMeet A h = true := by
  rw [<- miss_nil, decide_eq_true_eq]
  unfold missD
  cases e : A.filter fun l => decide (com l h = []) with
  | nil => simp
  | cons l r => simp [eL]
theorem meet_least {L : List Lot} (hL : ∀ l ∈ L, Asc l) (h : Lot) : allMeet (leastOf L) h = allMeet L h := by
  unfold allMeet
  congr 1
  rw [Bool.eq_iff_iff, List.any_eq_true, List.any_eq_true]
  constructor
  · rintro ⟨l, hl, e⟩
    exact ⟨l, leastOf_mem hL hl, e⟩
  · rintro ⟨l, hl, e⟩
    have q : hol (leastOf L) l = true := by rw [hol_leastOf hL]; exact hol_iff.mpr ⟨l, hl, inside_refl l⟩
    obtain ⟨a, ha, i⟩ := hol_iff.mp q
    refine ⟨a, ha, ?_⟩
    rw [decide_eq_true_eq, List.eq_nil_iff_forall_not_mem] at e ⊢
    intro n hn
    obtain ⟨h1, h2⟩ := mem_com.mp hn
    exact e n (mem_com.mpr ⟨inside_iff.mp i n h1, h2⟩)
structure SOk (n : Nat) (S : List Nat) : Prop where
  asc : S.Pairwise (· < ·)
  lt : ∀ s ∈ S, s + 1 < n
theorem SOk.range (n : Nat) : SOk n (List.range (n - 1)) := ⟨List.pairwise_lt_range, fun s h => by have := List.mem_range.mp h; omega⟩
theorem SOk.nil (n : Nat) : SOk n [] := ⟨.nil, fun _ h => nomatch h⟩
theorem SOk.nd {n : Nat} {S : List Nat} (h : SOk n S) : S.Nodup := h.asc.imp fun {a b} l e => by omega
theorem asc_len_from : ∀ {S : List Nat} {m n : Nat}, S.Pairwise (· < ·) -> (∀ s ∈ S, m <= s /\ s < n) -> S.length <= n - m
  | [], _, _, _, _ => Nat.zero_le _
  | x :: xs, m, n, p, h => by
    obtain ⟨p1, p2⟩ := List.pairwise_cons.mp p
    have := asc_len_from (m := x + 1) (n := n) p2 fun s hs => ⟨p1 s hs, (h s (.tail _ hs)).2⟩
    have := h x (.head _)
    rw [List.length_cons]
    omega
theorem asc_len {S : List Nat} {n : Nat} (p : S.Pairwise (· < ·)) (h : ∀ s ∈ S, s < n) : S.length <= n := by
  have := asc_len_from (m := 0) p fun s hs => ⟨Nat.zero_le s, h s hs⟩
  omega
theorem SOk.len {n : Nat} {S : List Nat} (h : SOk n S) : S.length <= n := asc_len h.asc fun s hs => by have := h.lt s hs; omega
def spanS (S : List Nat) (i j : Nat) : List Nat := i :: S.filter fun s => decide (i < s) && decide (s < j)
theorem spanS_lt {n i j s : Nat} {S : List Nat} (hS : SOk n S) (hi : i < n) (h : s ∈ spanS S i j) : s < n := by
  rcases List.mem_cons.mp h with rfl | h
  · exact hi
  · have := hS.lt s (List.mem_filter.mp h).1
    omega
theorem spanS_nd {n i j : Nat} {S : List Nat} (hS : SOk n S) : (spanS S i j).Nodup := by
  refine List.nodup_cons.mpr ⟨fun h => ?_, hS.nd.filter _⟩
  have := (List.mem_filter.mp h).2
  simp at this
theorem spanS_len {n i j : Nat} {S : List Nat} (hS : SOk n S) : (spanS S i j).length <= n + 1 := by
  have := List.length_filter_le (fun s => decide (i < s) && decide (s < j)) S
  have := hS.len
  unfold spanS
  rw [List.length_cons]
  omega
def begS (S : List Nat) (n : Nat) : List Nat := (List.range n).filter fun i => !S.any fun s => decide (s < i)
theorem begS_lt {S : List Nat} {n i : Nat} (h : i ∈ begS S n) : i < n := List.mem_range.mp (List.mem_filter.mp h).1
def bridS (P : List PL) (S : List Nat) (i j : Nat) (h : Lot) : Bool := (spanS S i j).any fun s => allMeet (keepAt P s) h
theorem betweenS_ok {n : Nat} {S : List Nat} (hS : SOk n S) (hn : n < 900) (i j : Nat) : m_between [eR S, eI i, eI j] = EK.ret (.lst ((spanS S i j).map eI)) := by
  simp! [m_between, b_between, itemsR]
  rw [lcM_filter eI (fun s => decide (i < s) && decide (s < j)) S fun s _ => by
    have a1 := ltN i s
    have a2 := ltN s j
    simp! [a1, a2]
    by_cases z : i < s
    · simp! [z, decide_true, Bool.true_and]
      split <;> rfl
    · simp! [z, decide_false, Bool.false_and]]
  have l2 := List.length_filter_le (fun s => decide (i < s) && decide (s < j)) S
  have l3 := hS.len
  simp! [itemsTL_lst, List.append_nil, List.length_map, show (S.filter fun s => decide (i < s) && decide (s < j)).length + 1 <= PySem.sizeLine by rw [sizeLine_eq]; omega]
  rfl
theorem beginS_ok {n : Nat} {S : List Nat} (hn : n < 1000) : m_beginnings [eR S, .int (n : Int)] = EK.ret (.lst ((begS S n).map eI)) := by
  simp! [m_beginnings, b_beginnings, rangeI (i := (n : Int)) (n := n) rfl (by omega)]
  rw [lcM_filter eI (fun i => !S.any fun s => decide (s < i)) (List.range n) fun i hi => by
    simp! [itemsR]
    rw [lcM_map eI (fun s => .bl (decide (s < i))) S fun s _ => by simp! [ltN]]
    simp! [anyD_map]
    cases S.any fun s => decide (s < i) <;> rfl]
  simp! []
  rfl
theorem dcI_of {f : SG} {u : ST} {hk hv : SE} {G : Sls} (g : Nat -> D) : ∀ xs : List Nat, (∀ n ∈ xs, ∃ G', f G (eI n) = some G' /\ u G' = EK.ret true /\ hk G' = EK.ret (eI n) /\ hv G' = EK.ret (g n)) -> dcM f u hk hv G (xs.map eI) = EK.ret (xs.map fun (n : Nat) => ((Sum.inl (n : Int) : Key), g n))
  | [], _ => rfl
  | x :: xs, H => by
    obtain ⟨G', e1, e2, e3, e4⟩ := H x (.head _)
    rw [List.map_cons, dcM, e1, ofO_some, bnd_ret, e2, bnd_ret, if_pos rfl, e3, bnd_ret, e4, bnd_ret, show keyOf (eI x) = some (Sum.inl (x : Int)) from rfl, ofO_some, bnd_ret, dcI_of g xs fun n hn => H n (.tail _ hn), bnd_ret]
    rfl
theorem dictOfI (g : Nat -> D) {xs : List Nat} (nd : xs.Nodup) (hl : xs.length <= 1000) : dictOf (xs.map fun (n : Nat) => ((Sum.inl (n : Int) : Key), g n)) = some (.dct (xs.map fun (s : Nat) => (Sum.inl (s : Int) : Key)) (xs.map g)) := by
  unfold dictOf
  have e1 : (xs.map fun (n : Nat) => ((Sum.inl (n : Int) : Key), g n)).map (·.1) = xs.map fun (s : Nat) => (Sum.inl (s : Int) : Key) := by rw [List.map_map]; rfl
  have e2 : (xs.map fun (n : Nat) => ((Sum.inl (n : Int) : Key), g n)).map (·.2) = xs.map g := by rw [List.map_map]; rfl
  have nk : (xs.map fun (s : Nat) => (Sum.inl (s : Int) : Key)).Nodup := by
    unfold List.Nodup
    rw [List.pairwise_map]
    exact nd.imp fun {a b} h z => h (by have := Sum.inl.inj z; omega)
  rw [e1, e2, if_pos ⟨by rw [List.length_map]; exact hl, nodupK_iff.mpr nk⟩]
def spanDS (P : List PL) (S : List Nat) (i j : Nat) (h : Lot) : D := .dct ((spanS S i j).map fun (s : Nat) => (Sum.inl (s : Int) : Key)) ((spanS S i j).map fun s => missD (leastOf (keepAt P s)) h)
theorem keep_nok {ms : Lot} (hm : Names ms) {P : List PL} (hP : ∀ p ∈ P, POk ms p) {s : Nat} (hs : s < P.length) : ∀ l ∈ leastOf (keepAt P s), NOk l := fun l hl => by
  have k := (hP _ (mem_getD hs)).k
  exact hm.lotok (k.lot l (leastOf_mem (fun x hx => (k.lot x hx).asc) hl))
theorem keep_meet {ms : Lot} {P : List PL} (hP : ∀ p ∈ P, POk ms p) {s : Nat} (hs : s < P.length) (h : Lot) : allMeet (leastOf (keepAt P s)) h = allMeet (keepAt P s) h :=
  have k := (hP _ (mem_getD hs)).k
  meet_least (fun x hx => (k.lot x hx).asc) h
theorem lots_pastS_ok (t : Bool) {ms : Lot} (hm : Names ms) {P : List PL} (hP : ∀ p ∈ P, POk ms p) (hl : P.length < 900) {S : List Nat} (hS : SOk P.length S) {i : Nat} (hi : i < P.length) (j : Nat) (h : Lot) : m_lots_past [pD t ms P, eR S, .tup [eI i, eI j, eL h]] = EK.ret (if bridS P S i j h = true then .non else spanDS P S i j h) := by
  simp! [m_lots_past, b_lots_past, itemsT_tup, gDc, gDcP, betweenS_ok hS hl i j, itemsOf_lst]
  rw [dcI_of (fun s => missD (leastOf (keepAt P s)) h) (spanS S i j) fun s hs => ⟨_, rfl, rfl, rfl, by
    have s1 := spanS_lt hS hi hs
    simp! [ixF t ms s1, show ∀ p, ixD (fP ms p) (.int 1) = some (fam ms (leastOf p.2)) from fun _ => rfl]
    exact missing_ok (keep_nok hm hP s1) h⟩]
  have sl := spanS_len (i := i) (j := j) hS
  have di := dictOfI (fun s => missD (leastOf (keepAt P s)) h) (spanS_nd (i := i) (j := j) hS) (by omega)
  have ix : inX .non (.lst ((spanS S i j).map fun s => missD (leastOf (keepAt P s)) h)) = some (.bl (bridS P S i j h)) := by
    refine inX_lst (n := 0) (k := 1) Cl.non (fun d hd => ?_) ?_
    · obtain ⟨s, hs, rfl⟩ := List.mem_map.mp hd
      exact miss_cl (keep_nok hm hP (spanS_lt hS hi hs)) h
    · unfold bridS
      rw [List.any_eq_true, List.mem_map]
      constructor
      · rintro ⟨s, hs, e⟩
        refine ⟨s, hs, (miss_non h).mpr ?_⟩
        rw [keep_meet hP (spanS_lt hS hi hs)]
        exact e
      · rintro ⟨s, hs, e⟩
        refine ⟨s, hs, ?_⟩
        have q := (miss_non h).mp e
        rwa [keep_meet hP (spanS_lt hS hi hs)] at q
  simp! [di, gValsO, show ∀ ks xs, valsDD (.dct ks xs) = some xs from fun _ _ => rfl, ix]
  cases bridS P S i j h <;> simp! [] <;> rfl
abbrev T3 : Type := Nat × Nat × Lot
def eT (t : T3) : D := .tup [eI t.1, eI t.2.1, eL t.2.2]
def upI (i n : Nat) : List Nat := (List.range (n - i)).map fun k => i + k
theorem upI_mem {i n j : Nat} (h : j ∈ upI i n) : i <= j /\ j < n := by
  obtain ⟨k, hk, rfl⟩ := List.mem_map.mp h
  have := List.mem_range.mp hk
  omega
theorem mem_upI {i n j : Nat} (h1 : i <= j) (h2 : j < n) : j ∈ upI i n := List.mem_map.mpr ⟨j - i, List.mem_range.mpr (by omega), by omega⟩
theorem rng2_up {i n : Nat} (hi : i <= n) (h : n < 1000) : rng2 [eI i, .int (n : Int)] = some ((upI i n).map eI) := by
  show (if -1000000 <= (i : Int) /\ (i : Int) < 1000000 /\ -1000000 <= (n : Int) /\ (n : Int) < 1000000 then some (upFrom (i : Int) ((n : Int) - (i : Int)).toNat) else none) = _
  rw [if_pos (by omega), show ((n : Int) - (i : Int)).toNat = n - i by omega]
  unfold upFrom upI
  rw [List.map_map]
  congr 1
def triA (P : List PL) (i j : Nat) : List T3 := (elecAt P j).map fun h => (i, j, h)
def triI (P : List PL) (i : Nat) : List T3 := (upI i P.length).flatMap (triA P i)
def triS (P : List PL) (S : List Nat) : List T3 := (begS S P.length).flatMap (triI P)
theorem triS_mem {P : List PL} {S : List Nat} {t : T3} : t ∈ triS P S ↔ t.1 ∈ begS S P.length /\ t.1 <= t.2.1 /\ t.2.1 < P.length /\ t.2.2 ∈ elecAt P t.2.1 := by
  obtain ⟨i, j, h⟩ := t
  unfold triS triI triA
  simp only [List.mem_flatMap, List.mem_map, Prod.mk.injEq]
  constructor
  · rintro ⟨a, ha, b, hb, c, hc, rfl, rfl, rfl⟩
    obtain ⟨h1, h2⟩ := upI_mem hb
    exact ⟨ha, h1, h2, hc⟩
  · rintro ⟨h1, h2, h3, h4⟩
    exact ⟨i, h1, j, mem_upI h2 h3, h, h4, rfl, rfl, rfl⟩
theorem elec_len {ms : Lot} (hm : Names ms) {P : List PL} (hP : ∀ p ∈ P, POk ms p) {j : Nat} (hj : j < P.length) : (elecAt P j).length <= 16 := by
  have e := (hP _ (mem_getD hj)).e
  exact (hm.fam (FamL.of hm.asc e.lot)).l16
theorem sum_le (f : Nat -> Nat) (k : Nat) : ∀ xs : List Nat, (∀ x ∈ xs, f x <= k) -> (xs.map f).sum <= xs.length * k
  | [], _ => by simp
  | x :: xs, h => by
    have := sum_le f k xs fun y hy => h y (.tail _ hy)
    have := h x (.head _)
    rw [List.map_cons, List.sum_cons, List.length_cons, Nat.succ_mul]
    omega
theorem triI_len {ms : Lot} (hm : Names ms) {P : List PL} (hP : ∀ p ∈ P, POk ms p) {i : Nat} {q : List Nat} (hq : ∀ j ∈ q, j < P.length) : (q.flatMap (triA P i)).length <= q.length * 16 := by
  rw [List.length_flatMap]
  refine sum_le _ 16 q fun j hj => ?_
  unfold triA
  rw [List.length_map]
  exact elec_len hm hP (hq j hj)
def triB : SS := (sExt 2 (gLO (gLc [5] (gIt (gProp "Family" m_Family_least (g2 ixD (g2 ixD (gv 0) (gv 4)) (fun _ => EK.ret (.int 0))))) (sgN 5) yes (EK.gTup (saC (gv 3) (saC (gv 4) (saC (gv 5) sa0)))))))
def triO : SS := (sFor (gItC rng2 (saC (gv 3) (saC (gC lenD (saC (gv 0) sa0)) sa0))) (sgN 4) triB)
theorem triO_ok (t : Bool) {ms : Lot} (hm : Names ms) {P : List PL} (hP : ∀ p ∈ P, POk ms p) (hl : P.length <= 8) (se : D) {i : Nat} (hi : i < P.length) (acc : List T3) (ha : acc.length <= 2000) (c4 c5 : Option Sl) :
    ∃ d4 d5, triO [some (.fz (pD t ms P)), some (.fz se), some (.own (acc.map eT)), some (.fz (eI i)), c4, c5] = EK.ret (.next [some (.fz (pD t ms P)), some (.fz se), some (.own ((acc ++ triI P i).map eT)), some (.fz (eI i)), d4, d5]) := by
  obtain ⟨G', e, d4, d5, rfl⟩ := forM_pre (a := sgN 4) (b := triB) eI (fun q G => ∃ c4 c5, G = [some (.fz (pD t ms P)), some (.fz se), some (.own ((acc ++ q.flatMap (triA P i)).map eT)), some (.fz (eI i)), c4, c5]) (xs := upI i P.length) (G := [some (.fz (pD t ms P)), some (.fz se), some (.own (acc.map eT)), some (.fz (eI i)), c4, c5]) ⟨c4, c5, by rw [List.flatMap_nil, List.append_nil]⟩ (by
    rintro q j r e G ⟨c4, c5, rfl⟩
    have mem : ∀ k ∈ q ++ [j], k < P.length := fun k hk => (upI_mem (i := i) (by rw [e]; rcases List.mem_append.mp hk with z | z; exact List.mem_append_left _ z; rw [List.mem_singleton.mp z]; simp)).2
    have hj := mem j (by simp)
    have ql : q.length <= P.length := by
      have := congrArg List.length e
      simp [upI] at this
      omega
    have l16 := elec_len hm hP hj
    have fl := triI_len hm hP (i := i) (q := q) fun k hk => mem k (List.mem_append_left _ hk)
    refine ⟨_, [some (.fz (pD t ms P)), some (.fz se), some (.own ((acc ++ (q ++ [j]).flatMap (triA P i)).map eT)), some (.fz (eI i)), some (.fz (eI j)), c5], rfl, ?_, _, _, rfl⟩
    unfold triB
    simp! [sExt, ixF t ms hj, show ∀ p, ixD (fP ms p) (.int 0) = some (fam ms (leastOf p.1)) from fun _ => rfl, isC_fam, least_ok, itemsOf_eLs]
    rw [lcM_map eL (fun h => eT (i, j, h)) (leastOf (P.getD j ([], [])).1) fun h _ => by
      simp! []
      rfl]
    have z : ((acc ++ q.flatMap (triA P i)).map eT).length + (leastOf (P.getD j ([], [])).1).length <= PySem.sizeLine := by
      have : (leastOf (P.getD j ([], [])).1).length <= 16 := l16
      rw [sizeLine_eq, List.length_map, List.length_append]
      omega
    rw [List.length_map] at z
    simp! [lstOf, List.length_map, z]
    rw [List.flatMap_append, <- List.append_assoc, List.map_append, List.flatMap_cons, List.flatMap_nil, List.append_nil]
    unfold triA elecAt
    simp only [List.map_append, List.map_map]
    rfl)
  refine ⟨d4, d5, ?_⟩
  have lf := lenF t ms P
  unfold triO
  simp! [lf, rng2_up (i := i) (n := P.length) (by omega) (by omega)]
  exact e
theorem triplesS_ok (t : Bool) {ms : Lot} (hm : Names ms) {P : List PL} (hP : ∀ p ∈ P, POk ms p) (hl : P.length <= 8) {S : List Nat} (hS : SOk P.length S) : m_triples [pD t ms P, eR S] = EK.ret (.lst ((triS P S).map eT)) := by
  simp! [m_triples, b_triples, lenF, beginS_ok (S := S) (show P.length < 1000 by omega), itemsOf_lst]
  show EK.bnd (forM (sgN 3) triO ((begS S P.length).map eI) [some (.fz (pD t ms P)), some (.fz (eR S)), some (.own []), none, none, none]) _ = _
  have bl : (begS S P.length).length <= 8 := by
    have := List.length_filter_le (fun i => !S.any fun s => decide (s < i)) (List.range P.length)
    rw [List.length_range] at this
    unfold begS
    omega
  obtain ⟨G', e, c3, c4, c5, rfl⟩ := forM_pre (a := sgN 3) (b := triO) eI (fun q G => ∃ c3 c4 c5, G = [some (.fz (pD t ms P)), some (.fz (eR S)), some (.own ((q.flatMap (triI P)).map eT)), c3, c4, c5]) (xs := begS S P.length) (G := [some (.fz (pD t ms P)), some (.fz (eR S)), some (.own []), none, none, none]) ⟨none, none, none, rfl⟩ (by
    rintro q i r e G ⟨c3, c4, c5, rfl⟩
    have mem : ∀ k ∈ q ++ [i], k < P.length := fun k hk => begS_lt (S := S) (by rw [e]; rcases List.mem_append.mp hk with z | z; exact List.mem_append_left _ z; rw [List.mem_singleton.mp z]; simp)
    have ql : q.length <= 8 := by
      have := congrArg List.length e
      simp at this
      omega
    have al : (q.flatMap (triI P)).length <= 2000 := by
      rw [List.length_flatMap]
      refine Nat.le_trans (sum_le _ 128 q fun k hk => ?_) (by omega)
      have := triI_len hm hP (i := k) (q := upI k P.length) fun j hj => (upI_mem hj).2
      have l : (upI k P.length).length <= 8 := by simp [upI]; omega
      unfold triI
      omega
    obtain ⟨d4, d5, e2⟩ := triO_ok t hm hP hl (eR S) (mem i (by simp)) (q.flatMap (triI P)) al c4 c5
    have fl : (q ++ [i]).flatMap (triI P) = q.flatMap (triI P) ++ triI P i := by rw [List.flatMap_append, List.flatMap_cons, List.flatMap_nil, List.append_nil]
    rw [<- fl] at e2
    exact ⟨_, _, rfl, e2, _, _, _, rfl⟩)
  rw [e, bnd_ret]
  simp! []
  rfl
def goS (P : List PL) (S : List Nat) : Bool := (triS P S).all fun t => bridS P S t.1 t.2.1 t.2.2
def gapDS (P : List PL) (S : List Nat) (t : T3) : D := .tup [eI t.1, eI t.2.1, eL t.2.2, spanDS P S t.1 t.2.1 t.2.2]
def gapF (P : List PL) (S : List Nat) (t : T3) : Option D := if bridS P S t.1 t.2.1 t.2.2 = true then none else some (gapDS P S t)
def gapO (P : List PL) (S : List Nat) : D := ((triS P S).findSome? (gapF P S)).getD .non
def gapB : SS := (sSeq (sAsg (gCall 3 m_lots_past (saC (gv 0) (saC (gv 1) (saC (gv 2) sa0)))) (sgN 3)) (sIf (tB' (g2 notND (gv 3) (fun _ => EK.ret .non))) (sRet (EK.gTup (saS (gv 2) (saC (gv 3) sa0)))) sNil))
theorem find_none {α : Type} (p : α -> Bool) (f : α -> D) (l : List α) : (l.findSome? (fun x => if p x = true then none else some (f x))).isNone = l.all p := by
  induction l with
  | nil => rfl
  | cons x l ih =>
    rw [List.findSome?_cons, List.all_cons]
    cases p x with
    | true => rw [if_pos rfl, Bool.true_and]; exact ih
    | false => rw [if_neg (by decide), Bool.false_and]; rfl
theorem gapO_non (P : List PL) (S : List Nat) : isND (gapO P S) .non = some (.bl (goS P S)) := by
  have fn := find_none (fun t : T3 => bridS P S t.1 t.2.1 t.2.2) (gapDS P S) (triS P S)
  have fn : ((triS P S).findSome? (gapF P S)).isNone = goS P S := fn
  rw [<- fn]
  unfold gapO
  cases e : (triS P S).findSome? (gapF P S) with
  | none => rfl
  | some d =>
    obtain ⟨q, _, hq⟩ := List.exists_of_findSome?_eq_some e
    unfold gapF at hq
    split at hq
    · cases hq
    · cases hq; rfl
theorem gapS_ok (t : Bool) {ms : Lot} (hm : Names ms) {P : List PL} (hP : ∀ p ∈ P, POk ms p) (hl : P.length <= 8) {S : List Nat} (hS : SOk P.length S) : m_gap_in [pD t ms P, eR S] = EK.ret (gapO P S) := by
  obtain ⟨k1, k2⟩ := forM_first (a := sgN 2) (b := gapB) eT (gapF P S) (fun G => ∃ c2 c3, G = [some (.fz (pD t ms P)), some (.fz (eR S)), c2, c3]) (triS P S) [some (.fz (pD t ms P)), some (.fz (eR S)), none, none] ⟨_, _, rfl⟩ (fun q hq G ⟨c2, c3, e⟩ => by
    subst e
    have hi := begS_lt (triS_mem.mp hq).1
    have lp := lots_pastS_ok t hm hP (by omega) hS hi q.2.1 q.2.2
    unfold gapF
    refine ⟨[some (.fz (pD t ms P)), some (.fz (eR S)), some (.fz (eT q)), c3], rfl, fun d hd => ?_, fun hd => ?_⟩
    · by_cases g : bridS P S q.1 q.2.1 q.2.2 = true
      · rw [if_pos g] at hd; cases hd
      · rw [if_neg g] at hd lp
        cases hd
        unfold gapB
        simp! [show eT q = .tup [eI q.1, eI q.2.1, eL q.2.2] from rfl, lp, show ∀ a b c, notND (spanDS P S a b c) .non = some (.bl true) from fun _ _ _ => rfl, itemsTL_tup]
        rfl
    · by_cases g : bridS P S q.1 q.2.1 q.2.2 = true
      · rw [if_pos g] at lp
        refine ⟨[some (.fz (pD t ms P)), some (.fz (eR S)), some (.fz (eT q)), some (.fz .non)], ?_, _, _, rfl⟩
        unfold gapB
        simp! [show eT q = .tup [eI q.1, eI q.2.1, eL q.2.2] from rfl, lp, show notND .non .non = some (.bl false) from rfl]
      · rw [if_neg g] at hd; cases hd)
  have F : m_gap_in [pD t ms P, eR S] = EK.bnd (forM (sgN 2) gapB ((triS P S).map eT) [some (.fz (pD t ms P)), some (.fz (eR S)), none, none]) (fun a => EK.bnd (match a with
        | Out.next G' => EK.ret (Out.ret D.non)
        | o => EK.ret o) fun o => match o with
        | Out.next G => EK.ret D.non
        | Out.ret d => EK.ret d
        | x => fail) := by
    simp! [m_gap_in, b_gap_in, triplesS_ok t hm hP hl hS, itemsOf_lst]
    rfl
  unfold gapO
  cases e : (triS P S).findSome? (gapF P S) with
  | none =>
    obtain ⟨G', e2, _⟩ := k2 e
    rw [F, e2, bnd_ret]
    rfl
  | some d =>
    rw [F, k1 d e, bnd_ret]
    rfl
def goB (P : List PL) : Bool := goS P (List.range (P.length - 1))
theorem gap_ok (t : Bool) {ms : Lot} (hm : Names ms) {P : List PL} (hP : ∀ p ∈ P, POk ms p) (hl : P.length <= 8) : m_gap_in [pD t ms P, eR (List.range (P.length - 1))] = EK.ret (gapO P (List.range (P.length - 1))) := gapS_ok t hm hP hl (SOk.range _)
theorem right_row_ok (t : Bool) {ms : Lot} (hm : Names ms) {P : List PL} (hP : ∀ p ∈ P, POk ms p) {r : List Nat} (hr : ∀ i ∈ r, i < P.length) (h1 : 1 <= r.length) (hl : r.length <= 8) : m_is_right_row [pD t ms P, eR r] = EK.ret (.bl (goB (rowP P r))) := by
  have hR := rowP_ok hP hr
  have lR := rowP_len P r
  have g1 := gap_ok false hm hR (by omega)
  have g2 := gapO_non (rowP P r) (List.range ((rowP P r).length - 1))
  rw [lR] at g1 g2
  simp! [m_is_right_row, b_is_right_row, itemsR]
  rw [lcM_map eI (fun i => fP ms (P.getD i ([], []))) r fun i hi => by simp! [ixF t ms (hr i hi)]]
  have e1 : D.lst (r.map fun i => fP ms (P.getD i ([], []))) = pD false ms (rowP P r) := by unfold pD rowP; rw [List.map_map]; rfl
  have e2 : goB (rowP P r) = goS (rowP P r) (List.range (r.length - 1)) := by unfold goB; rw [lR]
  simp! [e1, lenR, settled_ok h1 (show r.length < 1000 by omega), g1, g2, e2]
end
end EKB
set_option maxHeartbeats 2000000
namespace EKB
open PySem PySem.Spec PyProof.Rows L2 EK EKL
section
theorem hol_nil {A : List Lot} (h : ∀ l ∈ A, l ≠ []) : hol A [] = false := by
  rw [Bool.eq_false_iff]
  intro z
  obtain ⟨a, ha, i⟩ := hol_iff.mp z
  refine h a ha ?_
  rw [List.eq_nil_iff_forall_not_mem]
  intro n hn
  have := inside_iff.mp i n hn
  cases this
theorem usable_ok {ms : Lot} (hm : Names ms) {L : List Lot} (h : Lots ms L) : m_is_usable [fam ms (leastOf L)] = EK.ret (.bl true) := by
  have l16 := (hm.fam (FamL.of hm.asc h.lot)).l16
  have ne := least_ne h
  have l0 : 0 < (leastOf L).length := List.length_pos_iff.mpr ne
  have N : LotOf ms [] := ⟨.nil, fun _ q => by cases q⟩
  have hn : hol (leastOf L) [] = false := hol_nil fun l hl => h.n0 l (leastOf_mem (fun x hx => (h.lot x hx).asc) hl)
  have en := enough_ok (A := leastOf L) N
  rw [hn] at en
  have en' : m_Family_enough [fam ms (leastOf L), .tup []] = _ := en
  simp! [m_is_usable, b_is_usable, len_ok, if_pos (show 0 <= ((leastOf L).length : Int) /\ ((leastOf L).length : Int) < 2 ^ 63 from ⟨by omega, by omega⟩), show gtI (.int ((leastOf L).length : Int)) (.int 0) = some (.bl (decide ((0 : Int) < ((leastOf L).length : Int)))) from rfl, decide_eq_true (show (0 : Int) < ((leastOf L).length : Int) by omega), isC_fam, nf_enough, en']
theorem are_pairs_ok (t : Bool) {ms : Lot} (hm : Names ms) {P : List PL} (hP : ∀ p ∈ P, POk ms p) {k : Nat} (h1 : 1 <= P.length) (hk : P.length <= k) : m_are_pairs [eL ms, pD t ms P, .int (k : Int)] = EK.ret (.bl true) := by
  have sq : pD t ms P = seqD t (P.map (fP ms)) := rfl
  simp! [m_are_pairs, b_are_pairs, sq, is_list_ok, lenD_seqD, List.length_map, if_pos (show (1 : Int) <= (P.length : Int) by omega), show (1 : Int) <= (P.length : Int) by omega, show (P.length : Int) <= (k : Int) by omega, itemsOf_seqD]
  refine forM_bnd (fP ms) (fun q G => ∃ a3 a4, G = [some (.fz (eL ms)), some (.fz (seqD t (P.map (fP ms)))), some (.fz (.int (k : Int))), a3, a4]) ⟨_, _, rfl⟩ ?_ ?_
  · rintro q p r e G ⟨a3, a4, rfl⟩
    have hp : p ∈ P := by rw [e]; simp
    have ok := hP p hp
    refine ⟨_, [some (.fz (eL ms)), some (.fz (seqD t (P.map (fP ms)))), some (.fz (.int (k : Int))), some (.fz (fP ms p)), a4], rfl, ?_, _, _, rfl⟩
    have eq : eqD (eL ms) (eL ms) = some (.bl true) := by
      have := eqD_eL (a := ms) (b := ms) (fun n hn => (hm.nm n hn).ok) (fun n hn => (hm.nm n hn).ok)
      simpa using this
    simp! [show fP ms p = .tup [fam ms (leastOf p.1), fam ms (leastOf p.2)] from rfl, isiD_tup, lk_T, show ∀ a b : D, lenD [.tup [a, b]] = some (.int 2) from fun _ _ => rfl, neD_int, decide_true, Bool.not_true, itemsOf_tup]
    rw [show [fam ms (leastOf p.1), fam ms (leastOf p.2)] = [p.1, p.2].map fun L => fam ms (leastOf L) from rfl, lcM_map (fun L => fam ms (leastOf L)) (fun _ => .bl true) [p.1, p.2] fun L hL => by
      have lk : Lots ms L := by
        simp only [List.mem_cons, List.not_mem_nil, or_false] at hL
        rcases hL with rfl | rfl
        · exact ok.e
        · exact ok.k
      simp! [isi_fam, isC_fam, machines_ok, eq, usable_ok hm lk]]
    simp! []
    simp! [show allD [.lst [.bl true, .bl true]] = some (.bl true) from rfl]
  · rintro G ⟨a3, a4, rfl⟩
    simp! []
theorem need_pairs_ok (t : Bool) {ms : Lot} (hm : Names ms) {P : List PL} (hP : ∀ p ∈ P, POk ms p) (h1 : 1 <= P.length) (h6 : P.length <= 6) : m_need_pairs [pD t ms P] = EK.ret (pD true ms P) := by
  have sq : pD t ms P = seqD t (P.map (fP ms)) := rfl
  have i0 := ixF t ms (i := 0) (P := P) (by omega)
  have i0' : ixD (pD t ms P) (.int 0) = _ := i0
  have ap := are_pairs_ok t hm hP (k := 6) h1 h6
  have ap' : m_are_pairs [eL ms, pD t ms P, .int 6] = _ := ap
  have il : m_is_list [pD t ms P] = EK.ret (.bl true) := is_list_ok t _
  have e0 : eqD (.int (P.length : Int)) (.int 0) = some (.bl false) := by rw [eqD_int, decide_eq_false (by omega)]
  have tp : tupleD [pD t ms P] = some (pD true ms P) := by cases t <;> rfl
  simp! [m_need_pairs, b_need_pairs, il, lenF, e0, i0', show ∀ (p : PL) (g : String -> Option Bool), isiD [] g (fP ms p) = (g "tuple").map .bl from fun _ _ => rfl, lk_T, Option.map_some, show ∀ p : PL, lenD [fP ms p] = some (.int 2) from fun _ => rfl, neD_int, decide_true, Bool.not_true, show ∀ p : PL, ixD (fP ms p) (.int 0) = some (fam ms (leastOf p.1)) from fun _ => rfl, isi_fam, isC_fam, machines_ok, ap', tp]
def stepsAll (n : Nat) : List (List Nat) := (List.range n).flatMap fun a => (List.range n).map fun b => [a, b]
def stepsL (P : List PL) : List (List Nat) := (stepsAll P.length).filter fun r => goB (rowP P r)
theorem steps_mem {n : Nat} {r : List Nat} (h : r ∈ stepsAll n) : ∃ a b, r = [a, b] /\ a < n /\ b < n := by
  obtain ⟨a, ha, h⟩ := List.mem_flatMap.mp h
  obtain ⟨b, hb, rfl⟩ := List.mem_map.mp h
  exact ⟨a, b, rfl, List.mem_range.mp ha, List.mem_range.mp hb⟩
theorem pair_lt {n : Nat} {r : List Nat} (h : r ∈ stepsAll n) : ∀ i ∈ r, i < n := fun i hi => by
  obtain ⟨a, b, rfl, h1, h2⟩ := steps_mem h
  simp only [List.mem_cons, List.not_mem_nil, or_false] at hi
  rcases hi with rfl | rfl <;> assumption
theorem all_pairs (n : Nat) : ((List.range n).flatMap fun a => (List.range n).map fun b => eR [a, b]) = (stepsAll n).map eR := by
  unfold stepsAll
  rw [List.map_flatMap]
  congr 1
  funext a
  rw [List.map_map]
  rfl
theorem steps_ok (t : Bool) {ms : Lot} (hm : Names ms) {P : List PL} (hP : ∀ p ∈ P, POk ms p) (h1 : 1 <= P.length) (h6 : P.length <= 6) : m_steps_between [pD t ms P] = EK.ret (.lst ((stepsL P).map eR)) := by
  have rg := rangeI (i := (P.length : Int)) (n := P.length) rfl (by omega)
  have body : ∀ a2 : Option Sl, lcM (sgN 5) (tB' (gCall 2 m_is_right_row (saC (gv 1) (saC (gv 5) sa0)))) (gv 5) [some (.fz (pD t ms P)), some (.fz (pD true ms P)), a2, none, none, none] ((stepsAll P.length).map eR) = EK.ret ((stepsL P).map eR) := fun a2 => by
    rw [lcM_filter eR (fun r => goB (rowP P r)) (stepsAll P.length) fun r hr => by
      obtain ⟨a, b, er, _, _⟩ := steps_mem hr
      simp! [right_row_ok true hm hP (pair_lt hr) (by rw [er]; simp) (by rw [er]; simp)]
      split <;> rfl]
    rfl
  have inner : lc2M [4] (sgN 3) yes (gItC rng1 (saC (gC lenD (saC (gv 1) sa0)) sa0)) (sgN 4) yes (EK.gTup (saC (gv 3) (saC (gv 4) sa0))) [some (.fz (pD t ms P)), some (.fz (pD true ms P)), none, none, none, none] ((List.range P.length).map eI) = EK.ret ((stepsAll P.length).map eR) := by
    rw [lc2M_pure eI (fun _ b => eI b) (fun _ => List.range P.length) (fun a b => eR [a, b]) (List.range P.length) fun a ha => ⟨_, rfl, rfl, by simp! [lenF, rg], by rw [List.length_range]; omega, fun b hb => by
      simp! []
      rfl⟩, all_pairs]
  have l6 : (List.map eI (List.range P.length)).length <= 1000 := by rw [List.length_map, List.length_range]; omega
  simp! [m_steps_between, b_steps_between, need_pairs_ok t hm hP h1 h6, lenF, rg]
  rw [if_pos l6]
  simp! [inner, itemsOf_lst, body]
def rowsN (n f : Nat) : Nat -> List (List Nat)
  | 0 => [[f]]
  | k + 1 => (rowsN n f k).flatMap fun r => (List.range n).map fun i => r ++ [i]
def endsB (l : Nat) (r : List Nat) : Bool := decide (r.getLast? = some l)
def goodL (P : List PL) (f l k : Nat) : List (List Nat) := ((rowsN P.length f k).filter (endsB l)).filter fun r => goB (rowP P r)
theorem rows_mem {n f : Nat} (hf : f < n) : ∀ {k : Nat} {r : List Nat}, r ∈ rowsN n f k -> r.length = k + 1 /\ ∀ i ∈ r, i < n
  | 0, r, h => by
    rw [rowsN, List.mem_singleton] at h
    subst h
    exact ⟨rfl, fun i hi => by rw [List.mem_singleton.mp hi]; exact hf⟩
  | k + 1, r, h => by
    obtain ⟨q, hq, h⟩ := List.mem_flatMap.mp h
    obtain ⟨i, hi, rfl⟩ := List.mem_map.mp h
    obtain ⟨h1, h2⟩ := rows_mem hf hq
    refine ⟨by simp; omega, fun j hj => ?_⟩
    rcases List.mem_append.mp hj with hj | hj
    · exact h2 j hj
    · rw [List.mem_singleton.mp hj]; exact List.mem_range.mp hi
theorem rows_len (n f : Nat) : ∀ k, (rowsN n f k).length = n ^ k
  | 0 => rfl
  | k + 1 => by
    rw [rowsN, List.length_flatMap]
    have : ∀ L : List (List Nat), (L.map fun r => ((List.range n).map fun i => r ++ [i]).length).sum = L.length * n := fun L => by
      induction L with
      | nil => simp
      | cons r L ih =>
        rw [List.map_cons, List.sum_cons, ih, List.length_map, List.length_range, List.length_cons, Nat.succ_mul]
        omega
    rw [this, rows_len n f k, Nat.pow_succ]
theorem rows_small {n f k : Nat} (hn : n <= 6) (hk : k <= 4) : (rowsN n f k).length <= 1296 := by
  rw [rows_len]
  calc n ^ k <= 6 ^ k := Nat.pow_le_pow_left hn k
    _ <= 6 ^ 4 := Nat.pow_le_pow_right (by decide) hk
    _ = 1296 := by decide
theorem ix_lastR {r : List Nat} (h : r ≠ []) : ∃ x, r.getLast? = some x /\ ixD (eR r) (.int (-1)) = some (eI x) := by
  obtain ⟨q, x, rfl⟩ : ∃ q x, r = q ++ [x] := ⟨r.dropLast, r.getLast h, (List.dropLast_concat_getLast h).symm⟩
  refine ⟨x, by simp, ?_⟩
  have l : ((q ++ [x]).map eI).length = q.length + 1 := by simp
  show atI ((q ++ [x]).map eI) (-1) = _
  unfold atI ixN
  rw [if_neg (by decide), if_pos (by rw [l]; omega), Option.bind_some, l, show ((-1 : Int) + ((q.length + 1 : Nat) : Int)).toNat = q.length by omega]
  simp
theorem ends_ok {r : List Nat} (h : r ≠ []) (l : Nat) : ∃ x, ixD (eR r) (.int (-1)) = some (eI x) /\ eqD (eI x) (eI l) = some (.bl (endsB l r)) := by
  obtain ⟨x, e1, e2⟩ := ix_lastR h
  refine ⟨x, e2, ?_⟩
  unfold eI endsB
  rw [eqD_int, e1]
  congr 2
  rw [decide_eq_decide]
  constructor
  · intro z; congr 1; omega
  · intro z; rw [Option.some.inj z]
theorem neg1 : negD (.int 1) = some (.int (-1)) := rfl
theorem upK (lo : Int) (n : Nat) : upFrom lo n = (List.range n).map fun i : Nat => D.int (lo + (i : Int)) := rfl
theorem rng2_1 {i : Int} {n : Nat} (e : i = (n : Int)) (h : n < 1000) : rng2 [.int 1, .int (i + 1)] = some ((List.range n).map fun k : Nat => D.int (1 + (k : Int))) := by
  subst e
  show (if -1000000 <= (1 : Int) /\ (1 : Int) < 1000000 /\ -1000000 <= (n : Int) + 1 /\ (n : Int) + 1 < 1000000 then some (upFrom 1 ((n : Int) + 1 - 1).toNat) else none) = _
  rw [if_pos (by omega), show ((n : Int) + 1 - 1).toNat = n by omega, upK]
theorem rows_of_ok {n f l k : Nat} (hf : f < n) (hn : n <= 6) (hk : k <= 3) : m_rows_of [.int (n : Int), eI f, eI l, .int (1 + (k : Int))] = EK.ret (.lst (((rowsN n f k).filter (endsB l)).map eR)) := by
  have rg := rangeI (i := 1 + (k : Int) - 1) (n := k) (by omega) (by omega)
  have rgn := rangeI (i := (n : Int)) (n := n) rfl (by omega)
  simp! [m_rows_of, b_rows_of, rg]
  refine forM_bnd eI (fun p G => ∃ a5, G = [some (.fz (.int (n : Int))), some (.fz (eI f)), some (.fz (eI l)), some (.fz (.int (1 + (k : Int)))), some (.fz (.lst ((rowsN n f p.length).map eR))), a5, none, none]) ⟨_, rfl⟩ ?_ ?_
  · rintro p i q e G ⟨a5, rfl⟩
    have hp : p.length < k := by
      have := congrArg List.length e
      rw [List.length_range, List.length_append, List.length_cons] at this
      omega
    refine ⟨_, [some (.fz (.int (n : Int))), some (.fz (eI f)), some (.fz (eI l)), some (.fz (.int (1 + (k : Int)))), some (.fz (.lst ((rowsN n f (p ++ [i]).length).map eR))), some (.fz (eI i)), none, none], rfl, ?_, _, rfl⟩
    simp! [itemsOf_lst]
    have sm := rows_small (n := n) (f := f) (k := p.length) hn (by omega)
    have l6 : ((rowsN n f p.length).map eR).length <= 1000 := by
      rw [List.length_map, rows_len]
      calc n ^ p.length <= 6 ^ p.length := Nat.pow_le_pow_left hn _
        _ <= 6 ^ 3 := Nat.pow_le_pow_right (by decide) (by omega)
        _ <= 1000 := by decide
    rw [if_pos l6]
    rw [lc2M_pure eR (fun _ b => eI b) (fun _ => List.range n) (fun r i => eR (r ++ [i])) (rowsN n f p.length) fun r hr => ⟨_, rfl, rfl, by simp! [rgn], by rw [List.length_range]; omega, fun b hb => by
      obtain ⟨hl, _⟩ := rows_mem hf hr
      simp! [eR, itemsTL, List.length_append, List.length_map, List.length_cons, List.length_nil, show r.length + 1 <= PySem.sizeLine by rw [sizeLine_eq]; omega, List.map_append, List.map_cons, List.map_nil]⟩]
    simp! [List.length_append, List.length_cons, List.length_nil, rowsN, List.map_flatMap, List.map_map]
    rfl
  · rintro G ⟨a5, rfl⟩
    rw [List.length_range]
    simp! [itemsOf_lst]
    rw [lcM_filter eR (endsB l) (rowsN n f k) fun r hr => by
      obtain ⟨x, e1, e2⟩ := ends_ok (r := r) (by
        have := (rows_mem hf hr).1
        intro z
        rw [z] at this
        simp at this) l
      simp! [neg1, e1, e2]
      split <;> rfl]
    rfl
def firstL (P : List PL) (f l k : Nat) : Option (List (List Nat)) := if goodL P f l k = [] then none else some (goodL P f l k)
def dueL (P : List PL) (f l top : Nat) : List (List Nat) := ((List.range top).findSome? (firstL P f l)).getD []
theorem find_map {α β γ : Type} (g : α -> Option β) (f : β -> γ) (xs : List α) : xs.findSome? (fun x => (g x).map f) = (xs.findSome? g).map f := by
  induction xs with
  | nil => rfl
  | cons x xs ih =>
    rw [List.findSome?_cons, List.findSome?_cons]
    cases g x <;> simp [ih]
theorem cl_row (r : List Nat) : Cl 1 (eR r) := Cl.tup (n := 0) fun d hd => by
  obtain ⟨i, _, rfl⟩ := List.mem_map.mp hd
  exact Cl.int _
theorem cl_rows (L : List (List Nat)) : Cl 2 (.lst (L.map eR)) := Cl.lst (n := 1) fun d hd => by
  obtain ⟨r, _, rfl⟩ := List.mem_map.mp hd
  exact cl_row r
theorem rows_ne (L : List (List Nat)) : neD (.lst (L.map eR)) (.lst []) = some (.bl (!decide (L = []))) :=
  neD_cl (t := decide (L = [])) (cl_rows L) (Cl.lst (n := 0) (ds := []) fun _ q => nomatch q) (by cases L <;> simp)
theorem num_ok (i : Int) : m_is_number [.int i] = EK.ret (.bl true) := by
  simp! [m_is_number, b_is_number]
  rfl
theorem rows_between_ok (t : Bool) {ms : Lot} (hm : Names ms) {P : List PL} (hP : ∀ p ∈ P, POk ms p) (h6 : P.length <= 6) {f l top : Nat} (hf : f < P.length) (hl : l < P.length) (h1 : 1 <= top) (h4 : top <= 4) :
    m_rows_between [pD t ms P, eI f, eI l, .int (top : Int)] = EK.ret (.lst ((dueL P f l top).map eR)) := by
  have np := need_pairs_ok t hm hP (by omega) h6
  have rg := rng2_1 (i := (top : Int)) (n := top) rfl (by omega)
  have ix : ∀ a6 a7 a8 : Option Sl, EK.forM (sgN 5) (sIf (bOr (bNot (tB' (gCall 1 m_is_number (saC (gv 5) sa0)))) (bNot (tB' (g3 leI ltI (fun _ => EK.ret (.int 0)) (gv 5) (gC lenD (saC (gv 4) sa0)))))) (sThrow1 "BadIndex" "index" (gv 5)) sNil) [eI f, eI l] [some (.fz (pD t ms P)), some (.fz (eI f)), some (.fz (eI l)), some (.fz (.int (top : Int))), some (.fz (pD true ms P)), none, a6, a7, a8] = EK.ret (.next [some (.fz (pD t ms P)), some (.fz (eI f)), some (.fz (eI l)), some (.fz (.int (top : Int))), some (.fz (pD true ms P)), some (.fz (eI l)), a6, a7, a8]) := fun a6 a7 a8 => by
    unfold eI
    simp! [EK.forM, num_ok, lenF, decide_eq_true (show (0 : Int) <= (f : Int) by omega), decide_eq_true (show (f : Int) < (P.length : Int) by omega), decide_eq_true (show (0 : Int) <= (l : Int) by omega), decide_eq_true (show (l : Int) < (P.length : Int) by omega)]
  have fst := forM_first (fun k : Nat => D.int (1 + (k : Int))) (fun k => (firstL P f l k).map fun L => D.lst (L.map eR)) (fun G => ∃ a6 a7 a8, G = [some (.fz (pD t ms P)), some (.fz (eI f)), some (.fz (eI l)), some (.fz (.int (top : Int))), some (.fz (pD true ms P)), some (.fz (eI l)), a6, a7, a8]) (a := sgN 6) (b := (sSeq (sAsg (gLO (gLc [8] (gIt (gCall 4 m_rows_of (saC (gC lenD (saC (gv 4) sa0)) (saC (gv 1) (saC (gv 2) (saC (gv 6) sa0)))))) (sgN 8) (tB' (gCall 2 m_is_right_row (saC (gv 4) (saC (gv 8) sa0)))) (gv 8))) (sgN 7)) (sIf (tB' (g2 neD (gv 7) (gLst sa0))) (sRet (gv 7)) sNil))) (List.range top) [some (.fz (pD t ms P)), some (.fz (eI f)), some (.fz (eI l)), some (.fz (.int (top : Int))), some (.fz (pD true ms P)), some (.fz (eI l)), none, none, none] ⟨_, _, _, rfl⟩ (by
    rintro k hk G ⟨a6, a7, a8, rfl⟩
    have hk := List.mem_range.mp hk
    have body : (gLO (gLc [8] (gIt (gCall 4 m_rows_of (saC (gC lenD (saC (gv 4) sa0)) (saC (gv 1) (saC (gv 2) (saC (gv 6) sa0)))))) (sgN 8) (tB' (gCall 2 m_is_right_row (saC (gv 4) (saC (gv 8) sa0)))) (gv 8))) [some (.fz (pD t ms P)), some (.fz (eI f)), some (.fz (eI l)), some (.fz (.int (top : Int))), some (.fz (pD true ms P)), some (.fz (eI l)), some (.fz (.int (1 + (k : Int)))), a7, a8] = EK.ret (.lst ((goodL P f l k).map eR)) := by
      simp! [lenF, rows_of_ok (l := l) hf h6 (show k <= 3 by omega)]
      rw [lcM_filter eR (fun r => goB (rowP P r)) ((rowsN P.length f k).filter (endsB l)) fun r hr => by
        obtain ⟨e1, e2⟩ := rows_mem hf (List.mem_filter.mp hr).1
        simp! [right_row_ok true hm hP e2 (by omega) (by omega)]
        split <;> rfl]
      rfl
    refine ⟨[some (.fz (pD t ms P)), some (.fz (eI f)), some (.fz (eI l)), some (.fz (.int (top : Int))), some (.fz (pD true ms P)), some (.fz (eI l)), some (.fz (.int (1 + (k : Int)))), a7, a8], rfl, fun d hd => ?_, fun hd => ?_⟩
    · unfold firstL at hd
      split at hd
      · cases hd
      · rename_i ne
        cases hd
        rw [sSeq, sAsg, body]
        simp! [rows_ne, decide_eq_false ne]
    · unfold firstL at hd
      split at hd
      · rename_i e
        refine ⟨[some (.fz (pD t ms P)), some (.fz (eI f)), some (.fz (eI l)), some (.fz (.int (top : Int))), some (.fz (pD true ms P)), some (.fz (eI l)), some (.fz (.int (1 + (k : Int)))), some (.fz (.lst ((goodL P f l k).map eR))), a8], ?_, _, _, _, rfl⟩
        rw [sSeq, sAsg, body]
        simp! [rows_ne, decide_eq_true e]
      · cases hd)
  rw [find_map] at fst
  obtain ⟨f1, f2⟩ := fst
  · simp! [m_rows_between, b_rows_between, np, ix, num_ok, decide_eq_true (show (1 : Int) <= (top : Int) by omega), decide_eq_true (show (top : Int) <= 4 by omega), rg]
    cases q : (List.range top).findSome? (firstL P f l) with
    | some L =>
      rw [q] at f1
      rw [show dueL P f l top = L by unfold dueL; rw [q]; rfl, f1 _ rfl]
      simp! []
    | none =>
      rw [q] at f2
      obtain ⟨G', e, a6, a7, a8, rfl⟩ := f2 rfl
      rw [show dueL P f l top = [] by unfold dueL; rw [q]; rfl, e]
      simp! []
def stgS (ms : Lot) (P : List PL) (S : List Nat) : D := .obj "Stages" ["st_names", "st_pairs", "st_done"] [eL ms, pD true ms P, eR S]
theorem zip_next (S : List Nat) : zip2 [eR S, .tup ((S.map eI).drop 1)] = some ((S.zip (S.drop 1)).map fun p => .tup [eI p.1, eI p.2]) := by
  show some (zipD (S.map eI) ((S.map eI).drop 1)) = _
  congr 1
  unfold zipD
  rw [<- List.map_drop, List.zip_map, List.map_map]
  rfl
theorem asc_next {S : List Nat} (h : S.Pairwise (· < ·)) : ∀ p ∈ S.zip (S.drop 1), p.1 < p.2 := by
  induction S with
  | nil => intro p hp; simp at hp
  | cons x S ih =>
    obtain ⟨h1, h2⟩ := List.pairwise_cons.mp h
    intro p hp
    rw [List.drop_succ_cons, List.drop_zero] at hp
    cases S with
    | nil => simp at hp
    | cons y S =>
      rw [List.zip_cons_cons] at hp
      rcases List.mem_cons.mp hp with rfl | hp
      · exact h1 y (.head _)
      · exact ih h2 p hp
theorem are_indexesS_ok {n : Nat} {i : Int} {S : List Nat} (hS : SOk n S) (e : i = (n : Int) - 1) : m_are_indexes [eR S, .int i] = EK.ret (.bl true) := by
  subst e
  have sl : sliceD (some 1) none (eR S) = some (.tup ((S.map eI).drop 1)) := by
    unfold eR
    rw [sliceD_tup, cutL_from1]
  simp! [m_are_indexes, b_are_indexes, itemsR, show ∀ f r, isiD [] f (eR r) = (f "tuple").map .bl from fun _ _ => rfl, lk_T]
  rw [lcM_map eI (fun _ => .bl true) S fun x hx => by
    have := hS.lt x hx
    unfold eI
    simp! [num_ok, decide_eq_true (show (0 : Int) <= (x : Int) by omega), decide_eq_true (show (x : Int) < (n : Int) - 1 by omega)]]
  simp! [allD_map (fun _ => true), show (S.all fun _ => true) = true by simp, sl, zip_next]
  rw [lcM_map (fun p : Nat × Nat => D.tup [eI p.1, eI p.2]) (fun _ => .bl true) (S.zip (S.drop 1)) fun p hp => by
    simp! [ltN, decide_eq_true (asc_next hS.asc p hp)]]
  simp! [allD_map (fun _ => true), show ((S.zip (S.drop 1)).all fun _ => true) = true by simp]
theorem stagesS_ok {ms xs : Lot} (hm : Names ms) (px : xs.Perm ms) (t : Bool) {P : List PL} (hP : ∀ p ∈ P, POk ms p) (h1 : 1 <= P.length) (h4 : P.length <= 4) {S : List Nat} (hS : SOk P.length S) :
    m_Stages___init__ [.lst (xs.map D.str), pD t ms P, eR S] = EK.ret (([Str.ofString "st_names", Str.ofString "st_pairs", Str.ofString "st_done"] : List Str), [eL ms, pD true ms P, eR S]) := by
  have am : m_are_machines [.lst (xs.map D.str)] = _ := are_machines_ok false (by rw [px.length_eq]; exact hm.h1) (by rw [px.length_eq]; exact hm.h5) (fun n hn => hm.nm n (px.mem_iff.mp hn)) (px.nodup_iff.mpr hm.asc.nodup)
  have ap' : m_are_pairs [.tup (ms.map D.str), pD t ms P, .int 4] = _ := are_pairs_ok t hm hP h1 h4
  have hl := lenF t ms P
  have so : sortedD [.lst (xs.map D.str)] = some (.lst (ms.map D.str)) := by
    have := sortedD_names (x := xs) (itemsTL_seqD false (xs.map D.str))
    rw [sortS_perm px hm.asc] at this
    exact this
  have tp : tupleD [pD t ms P] = some (pD true ms P) := by cases t <;> rfl
  simp! [m_Stages___init__, b_Stages___init__, am, so, ap', hl, tp, are_indexesS_ok (n := P.length) (i := (P.length : Int) - 1) hS rfl]
  rw [if_pos (by decide +kernel)]
  simp! [tp]
  rw [if_pos (by decide +kernel)]
  simp! []
  rw [if_pos (by decide +kernel)]
  simp! []
  rfl
theorem need_stg (ms : Lot) (P : List PL) (S : List Nat) : m_need_stages [stgS ms P S] = EK.ret .non := by
  simp! [m_need_stages, b_need_stages, show ∀ f, isiD [("Stages", true)] f (stgS ms P S) = some (.bl true) from fun _ => rfl]
theorem are_rightS_ok {ms : Lot} (hm : Names ms) {P : List PL} (hP : ∀ p ∈ P, POk ms p) (h4 : P.length <= 8) {S : List Nat} (hS : SOk P.length S) : m_are_right [stgS ms P S] = EK.ret (.bl (goS P S)) := by
  simp! [m_are_right, b_are_right, need_stg, show fldD "Stages" "st_pairs" (stgS ms P S) = some (pD true ms P) from rfl, show fldD "Stages" "st_done" (stgS ms P S) = some (eR S) from rfl, gapS_ok true hm hP h4 hS, gapO_non]
end
end EKB
set_option maxHeartbeats 2000000
namespace EKB.K59
open PySem PySem.Spec PyProof.Rows L2 EK EKL EKB
section
theorem blt_of {x z : Str} (h : sLt x z = true) : itemOrd.blt (Sum.inr x.cps.toList) (Sum.inr z.cps.toList) = true := by
  unfold sLt PySem.W.dataLt at h
  simp only [PySem.W.keyToks] at h
  rcases lex_true.mp h with q | ⟨_, q⟩
  · exact q
  · cases q
theorem lotLt_2a {x y z w : Str} (h : sLt x z = true) : lotLt [x, y] [z, w] = true := by
  unfold lotLt PySem.W.dataLt lotKey
  simp only [PySem.W.keyToks, PySem.W.keyToksAll, List.cons_append, List.nil_append, List.length_cons, List.length_nil, List.map_cons, List.map_nil]
  rw [lex_self (O := itemOrd), lex_self (O := itemOrd), lex_self (O := itemOrd), lex_self (O := itemOrd)]
  exact lex_true.mpr (.inl (blt_of h))
theorem lotLt_2b {x y w : Str} (h : sLt y w = true) : lotLt [x, y] [x, w] = true := by
  unfold lotLt PySem.W.dataLt lotKey
  simp only [PySem.W.keyToks, PySem.W.keyToksAll, List.cons_append, List.nil_append, List.length_cons, List.length_nil, List.map_cons, List.map_nil]
  rw [lex_self (O := itemOrd), lex_self (O := itemOrd), lex_self (O := itemOrd), lex_self (O := itemOrd), lex_self (O := itemOrd), lex_self (O := itemOrd)]
  exact lex_true.mpr (.inl (blt_of h))
structure Abc (a b c : Str) : Prop where
  ab : sLt a b = true
  bc : sLt b c = true
section
variable {a b c : Str}
theorem Abc.ac (h : Abc a b c) : sLt a c = true := sLt_trans h.ab h.bc
theorem sLt_ne {x y : Str} (h : sLt x y = true) : x ≠ y := fun e => by rw [e, sLt_irrefl] at h; cases h
theorem abc_of (h : Asc [a, b, c]) : Abc a b c := by
  obtain ⟨h1, h2⟩ := List.pairwise_cons.mp h
  obtain ⟨h3, _⟩ := List.pairwise_cons.mp h2
  exact ⟨h1 b (.head _), h3 c (.head _)⟩
def Hf (a b c : Str) : List Lot := [[a, b], [a, c], [b, c]]
def Of (a : Str) : List Lot := [[a]]
def Mf (a b c : Str) : List Lot := [[a, b], [a, c]]
theorem asc1 (a : Str) : Asc [a] := List.pairwise_cons.mpr ⟨fun y hy => (by cases hy), .nil⟩
theorem asc2 {x y : Str} (h : sLt x y = true) : Asc [x, y] := List.pairwise_cons.mpr ⟨fun z hz => by rw [List.mem_singleton.mp hz]; exact h, asc1 y⟩
theorem canonH (h : Abc a b c) : Canon (Hf a b c) := by
  have ne1 := sLt_ne h.ab
  have ne2 := sLt_ne h.bc
  have ne3 := sLt_ne h.ac
  refine ⟨fun x hx => ?_, ?_, fun x hx y hy i => ?_⟩
  · simp only [Hf, List.mem_cons, List.not_mem_nil, or_false] at hx
    rcases hx with rfl | rfl | rfl
    · exact asc2 h.ab
    · exact asc2 h.ac
    · exact asc2 h.bc
  · have l1 := lotLt_2b (x := a) h.bc
    have l2 := lotLt_2a (x := a) (y := b) (z := b) (w := c) h.ab
    have l3 := lotLt_2a (x := a) (y := c) (z := b) (w := c) h.ab
    simp [Hf, l1, l2, l3]
  · simp only [Hf, List.mem_cons, List.not_mem_nil, or_false] at hx hy
    rcases hx with rfl | rfl | rfl <;> rcases hy with rfl | rfl | rfl <;> first | rfl | (exfalso; simp [inside, ne1, ne2, ne3, Ne.symm ne1, Ne.symm ne2, Ne.symm ne3] at i)
theorem canonM (h : Abc a b c) : Canon (Mf a b c) := by
  have C := canonH h
  have sub : ∀ x ∈ Mf a b c, x ∈ Hf a b c := fun x hx => by
    simp only [Mf, List.mem_cons, List.not_mem_nil, or_false] at hx
    rcases hx with rfl | rfl
    · exact .head _
    · exact .tail _ (.head _)
  refine ⟨fun x hx => C.asc x (sub x hx), ?_, fun x hx y hy i => C.anti x (sub x hx) y (sub y hy) i⟩
  simp [Mf, lotLt_2b (x := a) h.bc]
theorem canonO (a : Str) : Canon (Of a) := by
  refine ⟨fun x hx => ?_, by simp [Of], fun x hx y hy _ => ?_⟩
  · rw [List.mem_singleton.mp hx]; exact asc1 a
  · rw [List.mem_singleton.mp hx, List.mem_singleton.mp hy]
def P4 (a b c : Str) : List PL := [(Hf a b c, Hf a b c), (Hf a b c, Of a), (Of a, Of a), (Mf a b c, Hf a b c)]
theorem lotsH (h : Abc a b c) : Lots [a, b, c] (Hf a b c) := by
  refine ⟨by simp [Hf], fun l hl => ⟨(canonH h).asc l hl, fun n hn => ?_⟩, fun l hl => ?_, by simp [Hf]⟩
  · simp only [Hf, List.mem_cons, List.not_mem_nil, or_false] at hl
    rcases hl with rfl | rfl | rfl <;> simp at hn ⊢ <;> rcases hn with rfl | rfl <;> simp
  · simp only [Hf, List.mem_cons, List.not_mem_nil, or_false] at hl
    rcases hl with rfl | rfl | rfl <;> simp
theorem lotsM (h : Abc a b c) : Lots [a, b, c] (Mf a b c) := by
  refine ⟨by simp [Mf], fun l hl => ⟨(canonM h).asc l hl, fun n hn => ?_⟩, fun l hl => ?_, by simp [Mf]⟩
  · simp only [Mf, List.mem_cons, List.not_mem_nil, or_false] at hl
    rcases hl with rfl | rfl <;> simp at hn ⊢ <;> rcases hn with rfl | rfl <;> simp
  · simp only [Mf, List.mem_cons, List.not_mem_nil, or_false] at hl
    rcases hl with rfl | rfl <;> simp
theorem lotsO {ms : Lot} (h : a ∈ ms) : Lots ms (Of a) := by
  refine ⟨by simp [Of], fun l hl => ⟨(canonO a).asc l hl, fun n hn => ?_⟩, fun l hl => ?_, by simp [Of]⟩
  · rw [List.mem_singleton.mp hl] at hn
    rw [List.mem_singleton.mp hn]; exact h
  · rw [List.mem_singleton.mp hl]; simp
theorem P4_ok (h : Abc a b c) : ∀ p ∈ P4 a b c, POk [a, b, c] p := fun p hp => by
  have o : Lots [a, b, c] (Of a) := lotsO (.head _)
  simp only [P4, List.mem_cons, List.not_mem_nil, or_false] at hp
  rcases hp with rfl | rfl | rfl | rfl
  · exact ⟨lotsH h, lotsH h⟩
  · exact ⟨lotsH h, o⟩
  · exact ⟨o, o⟩
  · exact ⟨lotsM h, lotsH h⟩
abbrev Tb : Type := Nat -> Nat -> List Bool
def tbOf (P : List PL) : Tb := fun s j => (elecAt P j).map (allMeet (keepAt P s))
def goT (n : Nat) (T : Tb) (S : List Nat) : Bool := (begS S n).all fun i => (upI i n).all fun j => (List.range (T 0 j).length).all fun k => (spanS S i j).any fun s => (T s j).getD k false
theorem all_ix {α : Type} (L : List α) (A : List Nat) (f : Nat -> α -> Bool) : (L.all fun h => A.any fun s => f s h) = (List.range L.length).all fun k => A.any fun s => (L.map (f s)).getD k false := by
  rw [Bool.eq_iff_iff, List.all_eq_true, List.all_eq_true]
  have e : ∀ (k : Nat) (hk : k < L.length) (s : Nat), (L.map (f s)).getD k false = f s L[k] := fun k hk s => by
    rw [List.getD_eq_getElem?_getD, List.getElem?_map, List.getElem?_eq_getElem hk]; rfl
  constructor
  · intro h k hk
    have hk := List.mem_range.mp hk
    have := h L[k] (List.getElem_mem hk)
    rw [List.any_eq_true] at this ⊢
    obtain ⟨s, h1, h2⟩ := this
    exact ⟨s, h1, by rw [e k hk]; exact h2⟩
  · intro h x hx
    obtain ⟨k, hk, rfl⟩ := List.mem_iff_getElem.mp hx
    have := h k (List.mem_range.mpr hk)
    rw [List.any_eq_true] at this ⊢
    obtain ⟨s, h1, h2⟩ := this
    exact ⟨s, h1, by rw [e k hk] at h2; exact h2⟩
theorem goS_T (P : List PL) (S : List Nat) : goS P S = goT P.length (tbOf P) S := by
  unfold goS triS goT
  rw [List.all_flatMap]
  congr 1
  funext i
  unfold triI
  rw [List.all_flatMap]
  congr 1
  funext j
  unfold triA
  rw [List.all_map]
  show (elecAt P j).all (fun h => bridS P S i j h) = _
  have := all_ix (elecAt P j) (spanS S i j) fun s h => allMeet (keepAt P s) h
  unfold bridS
  rw [this]
  unfold tbOf
  rw [List.length_map]
theorem goT_congr {n : Nat} {T U : Tb} {S : List Nat} (hS : SOk n S) (h : ∀ s j, s < n -> j < n -> T s j = U s j) : goT n T S = goT n U S := by
  unfold goT
  rw [Bool.eq_iff_iff]
  simp only [List.all_eq_true]
  have key : ∀ i ∈ begS S n, ∀ j ∈ upI i n, ((∀ k ∈ List.range (T 0 j).length, ((spanS S i j).any fun s => (T s j).getD k false) = true) ↔ ∀ k ∈ List.range (U 0 j).length, ((spanS S i j).any fun s => (U s j).getD k false) = true) := fun i hi j hj => by
    have hn := (upI_mem hj).2
    have e0 : T 0 j = U 0 j := h 0 j (by omega) hn
    have e1 : ∀ k, ((spanS S i j).any fun s => (T s j).getD k false) = (spanS S i j).any fun s => (U s j).getD k false := fun k => by
      rw [Bool.eq_iff_iff, List.any_eq_true, List.any_eq_true]
      constructor <;> rintro ⟨s, h1, h2⟩ <;> refine ⟨s, h1, ?_⟩ <;> have e := h s j (spanS_lt hS (begS_lt hi) h1) hn
      · rw [<- e]; exact h2
      · rw [e]; exact h2
    rw [e0]
    constructor <;> intro q k hk
    · rw [<- e1]; exact q k hk
    · rw [e1]; exact q k hk
  constructor <;> intro q i hi j hj
  · exact (key i hi j hj).mp (q i hi j hj)
  · exact (key i hi j hj).mpr (q i hi j hj)
def T4 : Tb := fun s j => if s = 0 \/ s = 3 then (if j = 2 then [false] else if j = 3 then [true, true] else [true, true, true]) else (if j = 2 then [true] else if j = 3 then [true, true] else [true, true, false])
theorem tb4 (h : Abc a b c) : ∀ s j, s < 4 -> j < 4 -> tbOf (P4 a b c) s j = T4 s j := by
  have n1 := sLt_ne h.ab
  have n2 := sLt_ne h.bc
  have n3 := sLt_ne h.ac
  have m1 := Ne.symm n1
  have m2 := Ne.symm n2
  have m3 := Ne.symm n3
  have eH : ∀ x, allMeet (Hf a b c) x = (!decide (com [a, b] x = []) && (!decide (com [a, c] x = []) && !decide (com [b, c] x = []))) := fun x => by
    simp [allMeet, Hf, Bool.not_or]
  have eO : ∀ x, allMeet (Of a) x = !decide (com [a] x = []) := fun x => by simp [allMeet, Of]
  have h1 : (Hf a b c).map (allMeet (Hf a b c)) = [true, true, true] := by
    simp [allMeet, Hf, com, n1, n2, n3, m1, m2, m3]
  have h2 : (Of a).map (allMeet (Hf a b c)) = [false] := by
    simp [eH, Of, com, n1, n2, n3, m1, m2, m3]
  have h3 : (Mf a b c).map (allMeet (Hf a b c)) = [true, true] := by
    simp [eH, Mf, com, n1, n2, n3, m1, m2, m3]
  have h4 : (Hf a b c).map (allMeet (Of a)) = [true, true, false] := by
    simp [eO, Hf, com, n1, n2, n3, m1, m2, m3]
  have h5 : (Of a).map (allMeet (Of a)) = [true] := by
    simp [allMeet, Of, com]
  have h6 : (Mf a b c).map (allMeet (Of a)) = [true, true] := by
    simp [eO, Mf, com, n1, n2, n3, m1, m2, m3]
  have l1 := (canonH h).least
  have l2 := (canonO a).least
  have l3 := (canonM h).least
  intro s j hs hj
  have es : ∀ s j, tbOf (P4 a b c) s j = (leastOf ((P4 a b c).getD j ([], [])).1).map (allMeet ((P4 a b c).getD s ([], [])).2) := fun _ _ => rfl
  rw [es]
  match s, hs with
  | 0, _ => match j, hj with
    | 0, _ => exact (congrArg _ l1).trans h1
    | 1, _ => exact (congrArg _ l1).trans h1
    | 2, _ => exact (congrArg _ l2).trans h2
    | 3, _ => exact (congrArg _ l3).trans h3
  | 1, _ => match j, hj with
    | 0, _ => exact (congrArg _ l1).trans h4
    | 1, _ => exact (congrArg _ l1).trans h4
    | 2, _ => exact (congrArg _ l2).trans h5
    | 3, _ => exact (congrArg _ l3).trans h6
  | 2, _ => match j, hj with
    | 0, _ => exact (congrArg _ l1).trans h4
    | 1, _ => exact (congrArg _ l1).trans h4
    | 2, _ => exact (congrArg _ l2).trans h5
    | 3, _ => exact (congrArg _ l3).trans h6
  | 3, _ => match j, hj with
    | 0, _ => exact (congrArg _ l1).trans h1
    | 1, _ => exact (congrArg _ l1).trans h1
    | 2, _ => exact (congrArg _ l2).trans h2
    | 3, _ => exact (congrArg _ l3).trans h3
def q4 (r : List Nat) : Bool := goT r.length (fun s j => T4 (r.getD s 0) (r.getD j 0)) (List.range (r.length - 1))
theorem go_row (h : Abc a b c) {r : List Nat} (hr : ∀ i ∈ r, i < 4) : goB (rowP (P4 a b c) r) = q4 r := by
  unfold goB q4
  rw [goS_T, rowP_len]
  refine goT_congr (SOk.range _) fun s j hs hj => ?_
  have g : ∀ k (hk : k < r.length), (rowP (P4 a b c) r).getD k ([], []) = (P4 a b c).getD (r.getD k 0) ([], []) := fun k hk => by
    unfold rowP
    rw [List.getD_eq_getElem?_getD, List.getElem?_map, List.getElem?_eq_getElem hk, List.getD_eq_getElem?_getD (l := r), List.getElem?_eq_getElem hk]
    rfl
  have lt : ∀ k (hk : k < r.length), r.getD k 0 < 4 := fun k hk => by
    rw [List.getD_eq_getElem?_getD, List.getElem?_eq_getElem hk]
    exact hr _ (List.getElem_mem hk)
  rw [<- tb4 h _ _ (lt s hs) (lt j hj)]
  unfold tbOf elecAt keepAt
  rw [g s hs, g j hj]
def goodT (p : List Nat -> Bool) (n f l k : Nat) : List (List Nat) := ((rowsN n f k).filter (endsB l)).filter p
def dueT (p : List Nat -> Bool) (n f l top : Nat) : List (List Nat) := ((List.range top).findSome? fun k => if goodT p n f l k = [] then none else some (goodT p n f l k)).getD []
theorem due4 (h : Abc a b c) {f l top : Nat} (hf : f < 4) : dueL (P4 a b c) f l top = dueT q4 4 f l top := by
  have e : ∀ k, goodL (P4 a b c) f l k = goodT q4 4 f l k := fun k => by
    unfold goodL goodT
    refine List.filter_congr fun r hr => ?_
    exact go_row h (rows_mem hf (List.mem_filter.mp hr).1).2
  unfold dueL dueT firstL
  congr 2
  funext k
  rw [e k]
theorem steps4 (h : Abc a b c) : stepsL (P4 a b c) = (stepsAll 4).filter q4 := by
  unfold stepsL
  refine List.filter_congr fun r hr => ?_
  exact go_row h (pair_lt hr)
theorem due_a : dueT q4 4 0 2 4 = [[0, 1, 2]] := by decide +kernel
theorem due_b : dueT q4 4 0 2 2 = [] := by decide +kernel
theorem due_c : dueT q4 4 1 1 1 = [] := by decide +kernel
theorem due_d : dueT q4 4 2 0 3 = [[2, 3, 0]] := by decide +kernel
theorem due_e : dueT q4 4 0 0 3 = [[0]] := by decide +kernel
theorem due_f : dueT q4 4 0 3 4 = [[0, 3]] := by decide +kernel
theorem steps_a : (stepsAll 4).filter q4 = [[0, 0], [0, 1], [0, 3], [2, 2], [2, 3], [3, 0], [3, 1], [3, 3]] := by decide +kernel
end
end
end EKB.K59
set_option maxHeartbeats 2000000
namespace EKB.K59
open PySem PySem.Spec PyProof.Rows L2 EK EKL EKB
section
section
variable {a b c : Str}
theorem Shp.same {n : Nat} {d : D} (h : Cl n d) (hn : n <= 64) : samePl d d = true := by
  obtain ⟨p, e, _, s⟩ := h
  have q : p.canLay0 = true := s.lay
  unfold samePl
  rw [e]
  simp only [s.shaped hn, PySem.SeqAt.eqv_refl p q, Bool.and_self]
theorem fam_made {ms : Lot} (hm : Names ms) {L : List Lot} (h : Lots ms L) (hc : Canon L) : m_Family___init__ [.lst (ms.map D.str), .lst (L.map eL)] = EK.ret (([Str.ofString "own_machines", Str.ofString "own_least"] : List Str), [eL ms, eLs L]) := by
  have := init_of false false (List.Perm.refl ms) hm.asc hm.h1 hm.h5 hm.nm h.len h.lot
  rw [hc.least] at this
  exact this
theorem fP_canon {ms : Lot} {A B : List Lot} (hA : Canon A) (hB : Canon B) : fP ms (A, B) = .tup [fam ms A, fam ms B] := by
  unfold fP
  rw [hA.least, hB.least]
theorem four_ok (h : Abc a b c) (hm : Names [a, b, c]) : m_law_four [.lst ([a, b, c].map D.str)] = EK.ret (pD false [a, b, c] (P4 a b c)) := by
  have mH : m_Family___init__ [.lst [.str a, .str b, .str c], .lst [.tup [.str a, .str b], .tup [.str a, .str c], .tup [.str b, .str c]]] = _ := fam_made hm (lotsH h) (canonH h)
  have mM : m_Family___init__ [.lst [.str a, .str b, .str c], .lst [.tup [.str a, .str b], .tup [.str a, .str c]]] = _ := fam_made hm (lotsM h) (canonM h)
  have mO : m_Family___init__ [.lst [.str a, .str b, .str c], .lst [.tup [.str a]]] = _ := fam_made hm (lotsO (.head _)) (canonO a)
  have e1 := fP_canon (ms := [a, b, c]) (canonH h) (canonH h)
  have e2 := fP_canon (ms := [a, b, c]) (canonH h) (canonO a)
  have e3 := fP_canon (ms := [a, b, c]) (canonO a) (canonO a)
  have e4 := fP_canon (ms := [a, b, c]) (canonM h) (canonH h)
  simp! [m_law_four, b_law_four, sgTL, show ∀ x y z, itemsLs (D.lst [x, y, z]) = some [x, y, z] from fun _ _ _ => rfl, mH, mM, mO]
  unfold pD P4 seqD
  simp only [List.map_cons, List.map_nil, e1, e2, e3, e4]
  rfl
theorem rows4 (t : Bool) (h : Abc a b c) (hm : Names [a, b, c]) {f l top : Nat} (hf : f < 4) (hl : l < 4) (h1 : 1 <= top) (h4 : top <= 4) : m_rows_between [pD t [a, b, c] (P4 a b c), eI f, eI l, .int (top : Int)] = EK.ret (.lst ((dueT q4 4 f l top).map eR)) := by
  have := rows_between_ok t hm (P4_ok h) (show (P4 a b c).length <= 6 from Nat.le_of_ble_eq_true rfl) (f := f) (l := l) (top := top) hf hl h1 h4
  rw [due4 h hf] at this
  exact this
theorem rows_right (h : Abc a b c) (hm : Names [a, b, c]) : m_law_rows_right [.lst ([a, b, c].map D.str)] = EK.ret (.bl true) := by
  have r1 : m_rows_between [pD false [a, b, c] (P4 a b c), .int 0, .int 2, .int 4] = _ := rows4 false h hm (f := 0) (l := 2) (top := 4) (by decide) (by decide) (by decide) (by decide)
  have r2 : m_rows_between [pD false [a, b, c] (P4 a b c), .int 0, .int 2, .int 2] = _ := rows4 false h hm (f := 0) (l := 2) (top := 2) (by decide) (by decide) (by decide) (by decide)
  have r3 : m_rows_between [pD false [a, b, c] (P4 a b c), .int 1, .int 1, .int 1] = _ := rows4 false h hm (f := 1) (l := 1) (top := 1) (by decide) (by decide) (by decide) (by decide)
  have r4 : m_rows_between [pD false [a, b, c] (P4 a b c), .int 2, .int 0, .int 3] = _ := rows4 false h hm (f := 2) (l := 0) (top := 3) (by decide) (by decide) (by decide) (by decide)
  have r5 : m_rows_between [pD false [a, b, c] (P4 a b c), .int 0, .int 0, .int 3] = _ := rows4 false h hm (f := 0) (l := 0) (top := 3) (by decide) (by decide) (by decide) (by decide)
  have r6 : m_rows_between [pD true [a, b, c] (P4 a b c), .int 0, .int 3, .int 4] = _ := rows4 true h hm (f := 0) (l := 3) (top := 4) (by decide) (by decide) (by decide) (by decide)
  rw [due_a] at r1
  rw [due_b] at r2
  rw [due_c] at r3
  rw [due_d] at r4
  rw [due_e] at r5
  rw [due_f] at r6
  have s1 := steps_ok false hm (P4_ok h) (show 1 <= (P4 a b c).length from Nat.le_of_ble_eq_true rfl) (show (P4 a b c).length <= 6 from Nat.le_of_ble_eq_true rfl)
  rw [steps4 h, steps_a] at s1
  have hp : ∀ p ∈ [(Hf a b c, Of a)], POk [a, b, c] p := fun p hp => by
    rw [List.mem_singleton.mp hp]
    exact ⟨lotsH h, lotsO (.head _)⟩
  have s2 := steps_ok false hm hp (show 1 <= [(Hf a b c, Of a)].length from Nat.le_of_ble_eq_true rfl) (show [(Hf a b c, Of a)].length <= 6 from Nat.le_of_ble_eq_true rfl)
  have e2 : stepsL [(Hf a b c, Of a)] = [] := by
    have z : goB (rowP [(Hf a b c, Of a)] [0, 0]) = q4 [1, 1] := by
      have := go_row h (r := [1, 1]) (by decide)
      exact this
    have z2 : q4 [1, 1] = false := by decide +kernel
    rw [z2] at z
    simp [stepsL, stepsAll, z, List.range_succ]
  rw [e2] at s2
  have tp : tupleD [pD false [a, b, c] (P4 a b c)] = some (pD true [a, b, c] (P4 a b c)) := rfl
  have sl : sliceD (some 1) (some 2) (pD false [a, b, c] (P4 a b c)) = some (pD false [a, b, c] [(Hf a b c, Of a)]) := rfl
  have n1 : ∀ L : List (List Nat), neD (.lst (L.map eR)) (.lst (L.map eR)) = some (.bl false) := fun L => neD_cl (t := true) (cl_rows L) (cl_rows L) (by simp)
  have n2 : eqD (.lst (([[0, 0], [0, 1], [0, 3], [2, 2], [2, 3], [3, 0], [3, 1], [3, 3]] : List (List Nat)).map eR)) (.lst (([[0, 0], [0, 1], [0, 3], [2, 2], [2, 3], [3, 0], [3, 1], [3, 3]] : List (List Nat)).map eR)) = some (.bl true) := eqD_cl (cl_rows _) (cl_rows _) (by simp)
  have n3 : eqD (.lst (([] : List (List Nat)).map eR)) (.lst (([] : List (List Nat)).map eR)) = some (.bl true) := eqD_cl (cl_rows _) (cl_rows _) (by simp)
  have a1 : neD (.lst [eR [0, 1, 2]]) (.lst [.tup [.int 0, .int 1, .int 2]]) = some (.bl false) := n1 [[0, 1, 2]]
  have a2 : neD (.lst []) (.lst []) = some (.bl false) := n1 []
  have a3 : neD (.lst [eR [2, 3, 0]]) (.lst [.tup [.int 2, .int 3, .int 0]]) = some (.bl false) := n1 [[2, 3, 0]]
  have a4 : neD (.lst [eR [0]]) (.lst [.tup [.int 0]]) = some (.bl false) := n1 [[0]]
  have a5 : neD (.lst [eR [0, 3]]) (.lst [.tup [.int 0, .int 3]]) = some (.bl false) := n1 [[0, 3]]
  have a6 : eqD (.lst [eR [0, 0], eR [0, 1], eR [0, 3], eR [2, 2], eR [2, 3], eR [3, 0], eR [3, 1], eR [3, 3]]) (.lst [.tup [.int 0, .int 0], .tup [.int 0, .int 1], .tup [.int 0, .int 3], .tup [.int 2, .int 2], .tup [.int 2, .int 3], .tup [.int 3, .int 0], .tup [.int 3, .int 1], .tup [.int 3, .int 3]]) = some (.bl true) := n2
  have a7 : eqD (.lst []) (.lst []) = some (.bl true) := n3
  have f4 : m_law_four [.lst [.str a, .str b, .str c]] = _ := four_ok h hm
  simp! [m_law_rows_right, b_law_rows_right, f4, r1, r2, r3, r4, r5, r6, a1, a2, a3, a4, a5, a6, a7, s1, s2, tp, sl, and_self, if_true]
theorem go_rowS (h : Abc a b c) {r : List Nat} (hr : ∀ i ∈ r, i < 4) {S : List Nat} (hS : SOk r.length S) : goS (rowP (P4 a b c) r) S = goT r.length (fun s j => T4 (r.getD s 0) (r.getD j 0)) S := by
  rw [goS_T, rowP_len]
  refine goT_congr hS fun s j hs hj => ?_
  have g : ∀ k (hk : k < r.length), (rowP (P4 a b c) r).getD k ([], []) = (P4 a b c).getD (r.getD k 0) ([], []) := fun k hk => by
    unfold rowP
    rw [List.getD_eq_getElem?_getD, List.getElem?_map, List.getElem?_eq_getElem hk, List.getD_eq_getElem?_getD (l := r), List.getElem?_eq_getElem hk]
    rfl
  have lt : ∀ k (hk : k < r.length), r.getD k 0 < 4 := fun k hk => by
    rw [List.getD_eq_getElem?_getD, List.getElem?_eq_getElem hk]
    exact hr _ (List.getElem_mem hk)
  rw [<- tb4 h _ _ (lt s hs) (lt j hj)]
  unfold tbOf elecAt keepAt
  rw [g s hs, g j hj]
end
end
end EKB.K59
set_option maxHeartbeats 2000000
namespace EKB.K59
open PySem PySem.Spec PyProof.Rows L2 EK EKL EKB
section
section
variable {a b c : Str}
theorem cl_lot {l : Lot} (h : NOk l) : Cl 1 (eL l) := Cl.tup (n := 0) fun d hd => by
  obtain ⟨n, hn, rfl⟩ := List.mem_map.mp hd
  exact Cl.str (h n hn)
theorem net_gap (i j k : Int) {l m : Lot} (hl : NOk l) (hm : NOk m) : neT (.tup [.int i, .int j, eL l, .dct [Sum.inl k] [eL m]]) (.tup [.int i, .int j, eL l, .dct [Sum.inl k] [eL m]]) = some (.bl false) := by
  have s1 : ∀ i : Int, itm1 (.int i) (.int i) = true := fun i => by
    unfold itm1
    rw [Shp.same (n := 0) (Cl.int i) (by decide), Bool.or_true]
  have s2 : itm1 (eL l) (eL l) = true := by
    unfold itm1
    rw [Shp.same (cl_lot hl) (by decide), Bool.or_true]
  have s3 : itm1 (.dct [Sum.inl k] [eL m]) (.dct [Sum.inl k] [eL m]) = true := by
    unfold itm1
    have q := Shp.same (cl_lot hm) (by decide)
    have : sameDc samePl (.dct [Sum.inl k] [eL m]) (.dct [Sum.inl k] [eL m]) = true := by
      unfold sameDc
      simp only [subZ, atK, if_true, q, decide_true, Bool.and_self]
    rw [this, Bool.true_or]
  unfold EK.neT
  simp only [sameL, s1, s2, s3, Bool.and_self, if_true]
theorem meetH (h : Abc a b c) : allMeet (Hf a b c) [a, b] = true /\ allMeet (Hf a b c) [a, c] = true /\ allMeet (Hf a b c) [b, c] = true /\ allMeet (Hf a b c) [a] = false /\ allMeet (Of a) [a, b] = true /\ allMeet (Of a) [a, c] = true /\ allMeet (Of a) [b, c] = false := by
  have n1 := sLt_ne h.ab
  have n2 := sLt_ne h.bc
  have n3 := sLt_ne h.ac
  have m1 := Ne.symm n1
  have m2 := Ne.symm n2
  have m3 := Ne.symm n3
  refine ⟨?_, ?_, ?_, ?_, ?_, ?_, ?_⟩ <;> simp [allMeet, Hf, Of, com, n1, n2, n3, m1, m2, m3]
def P02 (a b c : Str) : List PL := [(Hf a b c, Hf a b c), (Of a, Of a)]
def P1 (a b c : Str) : List PL := [(Hf a b c, Of a)]
theorem gap_02 (h : Abc a b c) : gapO (P02 a b c) [] = .tup [.int 0, .int 1, eL [a], .dct [Sum.inl 0] [eL [b, c]]] := by
  obtain ⟨t1, t2, t3, t4, t5, t6, t7⟩ := meetH h
  have n1 := sLt_ne h.ab
  have n2 := sLt_ne h.bc
  have n3 := sLt_ne h.ac
  have m1 := Ne.symm n1
  have m2 := Ne.symm n2
  have m3 := Ne.symm n3
  have l1 := (canonH h).least
  have l2 := (canonO a).least
  have k0 : keepAt (P02 a b c) 0 = Hf a b c := rfl
  have e0 : elecAt (P02 a b c) 0 = [[a, b], [a, c], [b, c]] := l1
  have e1 : elecAt (P02 a b c) 1 = [[a]] := l2
  have ts : triS (P02 a b c) [] = (0, 0, [a, b]) :: (0, 0, [a, c]) :: (0, 0, [b, c]) :: (0, 1, [a]) :: triI (P02 a b c) 1 := by
    show [0, 1].flatMap (triI (P02 a b c)) = _
    rw [List.flatMap_cons, List.flatMap_cons, List.flatMap_nil, List.append_nil]
    show ([0, 1].flatMap (triA (P02 a b c) 0)) ++ _ = _
    simp only [List.flatMap_cons, List.flatMap_nil, triA, e0, e1, List.map_cons, List.map_nil, List.append_nil, List.cons_append, List.nil_append]
  have bs : ∀ (j : Nat) (x : Lot), bridS (P02 a b c) [] 0 j x = allMeet (Hf a b c) x := fun j x => by
    unfold bridS spanS
    simp only [List.filter_nil, List.any_cons, List.any_nil, k0, Bool.or_false]
  have md : missD (Hf a b c) [a] = eL [b, c] := by
    unfold missD
    simp [Hf, com, n1, n2, n3, m1, m2, m3]
  have sd : spanDS (P02 a b c) [] 0 1 [a] = .dct [Sum.inl 0] [eL [b, c]] := by
    unfold spanDS spanS
    simp only [List.filter_nil, List.map_cons, List.map_nil, k0, l1, md]
    rfl
  unfold gapO
  rw [ts]
  simp only [List.findSome?_cons, gapF, bs, t1, t2, t3, t4, if_true, Bool.false_eq_true, if_false, Option.getD_some, gapDS, sd]
  rfl
theorem gap_1 (h : Abc a b c) : gapO (P1 a b c) [] = .tup [.int 0, .int 0, eL [b, c], .dct [Sum.inl 0] [eL [a]]] := by
  obtain ⟨t1, t2, t3, t4, t5, t6, t7⟩ := meetH h
  have n1 := sLt_ne h.ab
  have n2 := sLt_ne h.bc
  have n3 := sLt_ne h.ac
  have m1 := Ne.symm n1
  have m2 := Ne.symm n2
  have m3 := Ne.symm n3
  have l1 := (canonH h).least
  have l2 := (canonO a).least
  have k0 : keepAt (P1 a b c) 0 = Of a := rfl
  have e0 : elecAt (P1 a b c) 0 = [[a, b], [a, c], [b, c]] := l1
  have ts : triS (P1 a b c) [] = [(0, 0, [a, b]), (0, 0, [a, c]), (0, 0, [b, c])] := by
    show [0].flatMap (triI (P1 a b c)) = _
    rw [List.flatMap_cons, List.flatMap_nil, List.append_nil]
    show ([0].flatMap (triA (P1 a b c) 0)) = _
    simp only [List.flatMap_cons, List.flatMap_nil, triA, e0, List.map_cons, List.map_nil, List.append_nil, List.cons_append, List.nil_append]
  have bs : ∀ (j : Nat) (x : Lot), bridS (P1 a b c) [] 0 j x = allMeet (Of a) x := fun j x => by
    unfold bridS spanS
    simp only [List.filter_nil, List.any_cons, List.any_nil, k0, Bool.or_false]
  have md : missD (Of a) [b, c] = eL [a] := by
    unfold missD
    simp [Of, com, n1, n2, n3, m1, m2, m3]
  have sd : spanDS (P1 a b c) [] 0 0 [b, c] = .dct [Sum.inl 0] [eL [a]] := by
    unfold spanDS spanS
    simp only [List.filter_nil, List.map_cons, List.map_nil, k0, l2, md]
    rfl
  unfold gapO
  rw [ts]
  simp only [List.findSome?_cons, gapF, bs, t5, t6, t7, if_true, Bool.false_eq_true, if_false, Option.getD_some, gapDS, sd]
  rfl
theorem gap_stg {ms : Lot} (hm : Names ms) {P : List PL} (hP : ∀ p ∈ P, POk ms p) (h4 : P.length <= 8) {S : List Nat} (hS : SOk P.length S) : m_gap [stgS ms P S] = EK.ret (gapO P S) := by
  simp! [m_gap, b_gap, need_stg, show fldD "Stages" "st_pairs" (stgS ms P S) = some (pD true ms P) from rfl, show fldD "Stages" "st_done" (stgS ms P S) = some (eR S) from rfl, gapS_ok true hm hP h4 hS]
theorem P4_sub (h : Abc a b c) {P : List PL} (s : ∀ p ∈ P, p ∈ P4 a b c) : ∀ p ∈ P, POk [a, b, c] p := fun p hp => P4_ok h p (s p hp)
theorem made (h : Abc a b c) (hm : Names [a, b, c]) {P : List PL} (s : ∀ p ∈ P, p ∈ P4 a b c) (h1 : 1 <= P.length) (h4 : P.length <= 4) {S : List Nat} (hS : SOk P.length S) :
    m_Stages___init__ [.lst [.str a, .str b, .str c], pD false [a, b, c] P, eR S] = EK.ret (([Str.ofString "st_names", Str.ofString "st_pairs", Str.ofString "st_done"] : List Str), [eL [a, b, c], pD true [a, b, c] P, eR S]) :=
  stagesS_ok hm (List.Perm.refl _) false (P4_sub h s) h1 h4 hS
def P012 (a b c : Str) : List PL := [(Hf a b c, Hf a b c), (Hf a b c, Of a), (Of a, Of a)]
def P0 (a b c : Str) : List PL := [(Hf a b c, Hf a b c)]
def P0000 (a b c : Str) : List PL := [(Hf a b c, Hf a b c), (Hf a b c, Hf a b c), (Hf a b c, Hf a b c), (Hf a b c, Hf a b c)]
def g3T (S : List Nat) : Bool := goT 3 (fun s j => T4 ([0, 1, 2].getD s 0) ([0, 1, 2].getD j 0)) S
theorem stages_right (h : Abc a b c) (hm : Names [a, b, c]) : m_law_stages_right [.lst ([a, b, c].map D.str)] = EK.ret (.bl true) := by
  have f4 : m_law_four [.lst [.str a, .str b, .str c]] = _ := four_ok h hm
  have sl : sliceD none (some 3) (pD false [a, b, c] (P4 a b c)) = some (.lst [fP [a, b, c] (Hf a b c, Hf a b c), fP [a, b, c] (Hf a b c, Of a), fP [a, b, c] (Of a, Of a)]) := rfl
  have s02 : ∀ p ∈ P02 a b c, p ∈ P4 a b c := fun p hp => by simp only [P02, P4, List.mem_cons, List.not_mem_nil, or_false] at hp ⊢; rcases hp with rfl | rfl <;> simp
  have s1 : ∀ p ∈ P1 a b c, p ∈ P4 a b c := fun p hp => by simp only [P1, P4, List.mem_cons, List.not_mem_nil, or_false] at hp ⊢; subst hp; simp
  have s0 : ∀ p ∈ P0 a b c, p ∈ P4 a b c := fun p hp => by simp only [P0, P4, List.mem_cons, List.not_mem_nil, or_false] at hp ⊢; subst hp; simp
  have s0000 : ∀ p ∈ P0000 a b c, p ∈ P4 a b c := fun p hp => by simp only [P0000, P4, List.mem_cons, List.not_mem_nil, or_false] at hp ⊢; rcases hp with rfl | rfl | rfl | rfl <;> simp
  have s012 : ∀ p ∈ P012 a b c, p ∈ P4 a b c := fun p hp => by simp only [P012, P4, List.mem_cons, List.not_mem_nil, or_false] at hp ⊢; rcases hp with rfl | rfl | rfl <;> simp
  have a1 : m_Stages___init__ [.lst [.str a, .str b, .str c], .lst [fP [a, b, c] (Hf a b c, Hf a b c), fP [a, b, c] (Of a, Of a)], .tup []] = _ := made h hm (P := P02 a b c) (S := []) s02 (Nat.le_of_ble_eq_true rfl) (Nat.le_of_ble_eq_true rfl) (SOk.nil _)
  have a2 : m_Stages___init__ [.lst [.str a, .str b, .str c], .lst [fP [a, b, c] (Hf a b c, Of a)], .tup []] = _ := made h hm (P := P1 a b c) (S := []) s1 (Nat.le_of_ble_eq_true rfl) (Nat.le_of_ble_eq_true rfl) (SOk.nil _)
  have a3 : m_Stages___init__ [.lst [.str a, .str b, .str c], .lst [fP [a, b, c] (Hf a b c, Hf a b c)], .tup []] = _ := made h hm (P := P0 a b c) (S := []) s0 (Nat.le_of_ble_eq_true rfl) (Nat.le_of_ble_eq_true rfl) (SOk.nil _)
  have o4 : SOk (P0000 a b c).length [1] := ⟨by simp, fun s hs => by rw [List.mem_singleton.mp hs]; exact Nat.le_of_ble_eq_true rfl⟩
  have a4 : m_Stages___init__ [.lst [.str a, .str b, .str c], .lst [fP [a, b, c] (Hf a b c, Hf a b c), fP [a, b, c] (Hf a b c, Hf a b c), fP [a, b, c] (Hf a b c, Hf a b c), fP [a, b, c] (Hf a b c, Hf a b c)], .tup [.int 1]] = _ := made h hm (P := P0000 a b c) (S := [1]) s0000 (Nat.le_of_ble_eq_true rfl) (Nat.le_of_ble_eq_true rfl) o4
  have o3 : ∀ S ∈ ([[], [1], [0], [0, 1]] : List (List Nat)), SOk (P012 a b c).length S := fun S hS => by
    simp only [List.mem_cons, List.not_mem_nil, or_false] at hS
    rcases hS with rfl | rfl | rfl | rfl <;> refine ⟨by simp, fun s hs => ?_⟩ <;> simp at hs <;> (first | subst hs | (rcases hs with rfl | rfl)) <;> exact Nat.le_of_ble_eq_true rfl
  have a5 : ∀ S ∈ ([[], [1], [0], [0, 1]] : List (List Nat)), m_Stages___init__ [.lst [.str a, .str b, .str c], .lst [fP [a, b, c] (Hf a b c, Hf a b c), fP [a, b, c] (Hf a b c, Of a), fP [a, b, c] (Of a, Of a)], eR S] = _ := fun S hS => made h hm (P := P012 a b c) (S := S) s012 (Nat.le_of_ble_eq_true rfl) (Nat.le_of_ble_eq_true rfl) (o3 S hS)
  have g1 : m_gap [.obj "Stages" ["st_names", "st_pairs", "st_done"] [eL [a, b, c], pD true [a, b, c] (P02 a b c), eR []]] = _ := gap_stg hm (P4_sub h s02) (S := []) (Nat.le_of_ble_eq_true rfl) (SOk.nil _)
  rw [gap_02 h] at g1
  have g2 : m_gap [.obj "Stages" ["st_names", "st_pairs", "st_done"] [eL [a, b, c], pD true [a, b, c] (P1 a b c), eR []]] = _ := gap_stg hm (P4_sub h s1) (S := []) (Nat.le_of_ble_eq_true rfl) (SOk.nil _)
  rw [gap_1 h] at g2
  have r1 : m_are_right [.obj "Stages" ["st_names", "st_pairs", "st_done"] [eL [a, b, c], pD true [a, b, c] (P0 a b c), eR []]] = _ := are_rightS_ok hm (P4_sub h s0) (S := []) (Nat.le_of_ble_eq_true rfl) (SOk.nil _)
  have r2 : m_are_right [.obj "Stages" ["st_names", "st_pairs", "st_done"] [eL [a, b, c], pD true [a, b, c] (P0000 a b c), eR [1]]] = _ := are_rightS_ok hm (P4_sub h s0000) (S := [1]) (Nat.le_of_ble_eq_true rfl) o4
  have v1 : goS (P0 a b c) [] = true := (go_rowS h (r := [0]) (by decide) (S := []) (SOk.nil _)).trans (by decide +kernel)
  have v2 : goS (P0000 a b c) [1] = true := (go_rowS h (r := [0, 0, 0, 0]) (by decide) (S := [1]) o4).trans (by decide +kernel)
  rw [v1] at r1
  rw [v2] at r2
  have v3 : ∀ S ∈ ([[], [1], [0], [0, 1]] : List (List Nat)), goS (P012 a b c) S = g3T S := fun S hS => go_rowS h (r := [0, 1, 2]) (by decide) (S := S) (o3 S hS)
  have r3 : ∀ S ∈ ([[], [1], [0], [0, 1]] : List (List Nat)), m_are_right [.obj "Stages" ["st_names", "st_pairs", "st_done"] [eL [a, b, c], pD true [a, b, c] (P012 a b c), eR S]] = EK.ret (.bl (g3T S)) := fun S hS => by
    have : m_are_right [.obj "Stages" ["st_names", "st_pairs", "st_done"] [eL [a, b, c], pD true [a, b, c] (P012 a b c), eR S]] = _ := are_rightS_ok hm (P4_sub h s012) (S := S) (Nat.le_of_ble_eq_true rfl) (o3 S hS)
    rw [v3 S hS] at this
    exact this
  have c4 : ([[], [1], [0], [0, 1]] : List (List Nat)).map (fun S => D.bl (g3T S)) = [.bl false, .bl false, .bl false, .bl true] := by
    have k : ([[], [1], [0], [0, 1]] : List (List Nat)).map g3T = [false, false, false, true] := by decide +kernel
    have := congrArg (List.map D.bl) k
    rw [List.map_map] at this
    exact this
  have b4 : neD (.lst [.bl false, .bl false, .bl false, .bl true]) (.lst [.bl false, .bl false, .bl false, .bl true]) = some (.bl false) := by rfl
  have na : NOk [a] := fun n hn => hm.nok n (by rw [List.mem_singleton.mp hn]; simp)
  have nbc : NOk [b, c] := fun n hn => hm.nok n (.tail _ hn)
  have n1 : neT (.tup [.int 0, .int 1, eL [a], .dct [Sum.inl 0] [eL [b, c]]]) (.tup [.int 0, .int 1, .tup [.str a], .dct [Sum.inl 0] [.tup [.str b, .str c]]]) = _ := net_gap 0 1 0 na nbc
  have n2 : neT (.tup [.int 0, .int 0, eL [b, c], .dct [Sum.inl 0] [eL [a]]]) (.tup [.int 0, .int 0, .tup [.str b, .str c], .dct [Sum.inl 0] [.tup [.str a]]]) = _ := net_gap 0 0 0 nbc na
  have x0 : ixD (.lst [.str a, .str b, .str c]) (.int 0) = some (.str a) := rfl
  have x1 : ixD (.lst [.str a, .str b, .str c]) (.int 1) = some (.str b) := rfl
  have x2 : ixD (.lst [.str a, .str b, .str c]) (.int 2) = some (.str c) := rfl
  have lc := lcM_map (u := yes) (f := sgN 4) (h := gCall 1 m_are_right (saC (gMake "Stages" 3 m_Stages___init__ (saC (gv 0) (saC (gLst (saC (gv 1) (saC (gv 2) (saC (gv 3) sa0)))) (saC (gv 4) sa0)))) sa0)) (G := [some (.fz (.lst [.str a, .str b, .str c])), some (.fz (fP [a, b, c] (Hf a b c, Hf a b c))), some (.fz (fP [a, b, c] (Hf a b c, Of a))), some (.fz (fP [a, b, c] (Of a, Of a))), none]) eR (fun S => .bl (g3T S)) [[], [1], [0], [0, 1]] fun S hS => by
    simp! [a5 S hS, r3 S hS]
  rw [c4] at lc
  simp only [List.map_cons, List.map_nil] at lc
  have d15 : ∀ x : D, dictOf15 [(Sum.inl 0, x)] = some (.dct [Sum.inl 0] [x]) := fun _ => rfl
  have k0 : EK.keyOf (.int 0) = some (Sum.inl 0) := rfl
  have it : itemsOf (.lst [.tup [], .tup [.int 1], .tup [.int 0], .tup [.int 0, .int 1]]) = some (([[], [1], [0], [0, 1]] : List (List Nat)).map eR) := rfl
  simp! [m_law_stages_right, b_law_stages_right, f4, sl, sgTL, show ∀ x y z, itemsLs (D.lst [x, y, z]) = some [x, y, z] from fun _ _ _ => rfl, a1, a2, a3, a4, g1, g2, r1, r2, n1, n2, x0, x1, x2, it, lc, b4, gDisp, gPairs, k0, d15]
end
end
end EKB.K59
namespace EK
open PySem PySem.Spec PyProof.Rows L2
section
def TrL {α : Type} (n k : Nat) (m : M α) (P : α -> Prop) : Prop :=
  ∀ s, OkS s -> s.live = true -> s.objs = List.replicate k [] -> s.turn + n <= LIM -> ∃ a s', m s = some (.ok a, s') /\ OkK s s' /\ s'.turn <= s.turn + n /\ P a
theorem TrL.of {α : Type} {n k : Nat} {m : M α} {P : α -> Prop} (h : Tr n m P) : TrL n k m P := fun s o _ _ l => h s o l
theorem TrL.ret {α : Type} {k : Nat} {a : α} {P : α -> Prop} (h : P a) : TrL 0 k (EK.ret a) P := TrL.of (Tr.ret h)
theorem TrL.bnd {α β : Type} {m : M α} {K : α -> M β} {P : α -> Prop} {Q : β -> Prop} {i j k : Nat} (h : TrL i k m P) (H : ∀ a, P a -> TrL j k (K a) Q) : TrL (i + j) k (EK.bnd m K) Q := fun s o lv e l => by
  obtain ⟨a, s1, e1, o1, t1, p⟩ := h s o lv e (by push_cast at l; omega)
  obtain ⟨b, s2, e2, o2, t2, q⟩ := H a p s1 o1 (o1.lv.trans lv) (o1.ob.trans e) (by push_cast at l; omega)
  exact ⟨b, s2, by unfold EK.bnd; rw [e1]; exact e2, o1.trans o2, by push_cast; omega, q⟩
theorem TrL.mono {α : Type} {m : M α} {P Q : α -> Prop} {i j k : Nat} (h : TrL i k m P) (l : i <= j) (H : ∀ a, P a -> Q a) : TrL j k m Q := fun s o lv e r => by
  obtain ⟨a, s1, e1, o1, t1, p⟩ := h s o lv e (by omega)
  exact ⟨a, s1, e1, o1, by omega, H a p⟩
theorem TrL.le {α : Type} {m : M α} {P : α -> Prop} {i j k : Nat} (h : TrL i k m P) (l : i <= j) : TrL j k m P := h.mono l fun _ p => p
theorem TrL.imp {α : Type} {m : M α} {P Q : α -> Prop} {i k : Nat} (h : TrL i k m P) (H : ∀ a, P a -> Q a) : TrL i k m Q := h.mono (Nat.le_refl _) H
theorem TrL.forI {α : Type} (n : Nat) (enc : α -> D) (I : Nat -> Sls -> Prop) (N : Nat) {k : Nat} {a : SG} {b : SS} : ∀ (xs : List α) (i : Nat) (G : Sls), i + xs.length <= N -> I i G ->
    (∀ i G x, x ∈ xs -> i < N -> I i G -> ∃ G1, a G (enc x) = some G1 /\ TrL n k (b G1) fun o => ∃ G2, o = .next G2 /\ I (i + 1) G2) ->
    TrL (n * xs.length) k (forM a b (xs.map enc) G) fun o => ∃ G', o = .next G' /\ I (i + xs.length) G'
  | [], i, G, _, h, _ => TrL.ret ⟨G, rfl, h⟩
  | x :: xs, i, G, hN, h, H => by
    rw [List.length_cons] at hN
    obtain ⟨G1, e1, t⟩ := H i G x (.head _) (by omega) h
    rw [List.map_cons, forM, e1, ofO_some, bnd_ret]
    refine TrL.le (TrL.bnd t fun o ⟨G2, e2, j⟩ => ?_) (show n + n * xs.length <= _ by rw [List.length_cons, Nat.mul_succ]; omega)
    subst e2
    refine (TrL.forI n enc I N xs (i + 1) G2 (by omega) j fun i G y hy => H i G y (.tail _ hy)).imp fun o ⟨G', e, k⟩ => ⟨G', e, ?_⟩
    rw [List.length_cons, Nat.add_comm xs.length 1, <- Nat.add_assoc]
    exact k
def lamD (q : Str) (n : Nat) : D := .mob noC [q] n
theorem calm_nils (p : Nat -> Bool) (k : Nat) : (List.replicate k ([] : List D)).all (clFs p) = true := by
  rw [List.all_eq_true]
  intro x hx
  rw [(List.mem_replicate.mp hx).2, clFs]
theorem end_plain {k : Nat} {s' : DS} {d : D} (e : s'.objs = List.replicate (k + 1) []) (h : clF (fun i => decide (i < k)) d = true) : endN k (some (.ok (.ret d), s')) = some (.ok (.ret d), { s' with objs := List.replicate k [] }) := by
  have t : s'.objs.take k = List.replicate k [] := by rw [e, List.take_replicate]; congr 1; omega
  show (if (s'.objs.take k).all (clFs fun i => decide (i < k)) = true then (forgetO k (.ret d)).map fun o => (Res.ok o, { s' with objs := s'.objs.take k }) else none) = _
  rw [t, calm_nils, if_pos rfl]
  show (if clF (fun i => decide (i < k)) d = true then some (Out.ret d) else none).map _ = _
  rw [if_pos h]
  rfl
theorem TrL.up {n k : Nat} {m : M Out} {P : D -> Prop} (hP : ∀ d, P d -> ∀ p, clF p d = true) (H : TrL n (k + 1) m fun o => ∃ d, o = .ret d /\ P d) {s : DS} (o : OkS s) (lv : s.live = true) (e : s.objs = List.replicate k []) (l : s.turn + n <= LIM) :
    ∃ a s', endN s.objs.length (m { s with objs := s.objs ++ [[]] }) = some (.ok a, s') /\ OkK s s' /\ s'.turn <= s.turn + n /\ ∃ d, a = .ret d /\ P d := by
  have e2 : s.objs ++ [[]] = List.replicate (k + 1) ([] : List D) := by rw [e, List.replicate_succ']
  obtain ⟨a, s1, e1, o1, t1, d, rfl, p⟩ := H { s with objs := s.objs ++ [[]] } ⟨o.w, o.c, o.r, o.t⟩ lv e2 l
  have ob : s1.objs = List.replicate (k + 1) [] := o1.ob.trans e2
  refine ⟨.ret d, { s1 with objs := List.replicate k [] }, ?_, ⟨⟨o1.w, o1.c, o1.r, o1.t⟩, e.symm, o1.lv⟩, t1, d, rfl, p⟩
  rw [e1, e, List.length_replicate]
  exact end_plain ob (hP d p _)
theorem TrL.lamN {n k i : Nat} {q : Str} {b : Nat -> SS} {G : Sls} {P : D -> Prop} (hP : ∀ d, P d -> ∀ p, clF p d = true) (H : TrL n (k + 1) (b k (G.set i (some (.own [lamD q k])))) fun o => ∃ d, o = .ret d /\ P d) :
    TrL n k (sLamN i q b G) fun o => ∃ d, o = .ret d /\ P d := fun s o lv e l => by
  have q0 : sLamN i q b G s = endN s.objs.length (b k (G.set i (some (.own [lamD q k]))) { s with objs := s.objs ++ [[]] }) := by
    unfold sLamN lamD
    rw [if_pos lv, e, List.length_replicate]
  rw [q0]
  exact TrL.up hP H o lv e l
theorem TrL.lamA {n k i : Nat} {q : Str} {b : Nat -> SS} {G : Sls} {ds : List D} {P : D -> Prop} (hP : ∀ d, P d -> ∀ p, clF p d = true) (hG : G[i]? = some (some (.own ds))) (hl : ds.length < 1000)
    (H : TrL n (k + 1) (b k (G.set i (some (.own (ds ++ [lamD q k]))))) fun o => ∃ d, o = .ret d /\ P d) : TrL n k (sLamA i q b G) fun o => ∃ d, o = .ret d /\ P d := fun s o lv e l => by
  have q0 : sLamA i q b G s = endN s.objs.length (b k (G.set i (some (.own (ds ++ [lamD q k])))) { s with objs := s.objs ++ [[]] }) := by
    unfold sLamA lamD
    simp only [hG]
    rw [if_pos ⟨lv, by rw [sizeLine_eq]; omega⟩, e, List.length_replicate]
  rw [q0]
  exact TrL.up hP H o lv e l
theorem clK_lam (tbl : List (Nat × SE)) (q : Str) (n : Nat) : clK tbl (lamD q n) = tbl.lookup n := by
  unfold clK lamD
  exact if_pos rfl
theorem jobF_lam {vs : List Nat} {j : Nat} {tbl : List (Nat × SE)} {one : SE -> SE} {G : Sls} {q : Str} {n : Nat} {f : SE} (hG : G[j]? = some (some (.fz (lamD q n)))) (e : tbl.lookup n = some f) : jobF vs j tbl one G = one f (wipeG G vs) := by
  unfold jobF
  simp only [hG, clK_lam, e]
end
end EK
set_option maxHeartbeats 2000000
namespace EKB.K59
open PySem PySem.Spec PyProof.Rows L2 EK EKL EKB
section
def exF : Exn := ⟨"BadStages", ["part"], [.str "families"]⟩
def pairB : SS := (sSeq (sIf (bOr (bNot (tB' (g1 (isiD [] fun t => List.lookup t ([("NoneType", false), ("bool", false), ("int", false), ("str", false), ("tuple", true), ("list", false), ("dict", false)] : List (String × Bool))) (gv 3)))) (tB' (g2 neD (gC lenD (saC (gv 3) sa0)) (fun _ => ret (.int 2))))) (sRet (fun _ => ret (.bl false))) sNil) (sIf (bNot (tB' (gC allD (saC (gLO (gLc [4] (gIt (gv 3)) (sgN 4) yes (vAnd (g1 (isiD [("Family", true)] fun t => List.lookup t ([("NoneType", false), ("bool", false), ("int", false), ("str", false), ("tuple", false), ("list", false), ("dict", false)] : List (String × Bool))) (gv 4)) (vAnd (g2 eqD (gProp "Family" m_Family_machines (gv 4)) (gv 0)) (gCall 1 m_is_usable (saC (gv 4) sa0)))))) sa0)))) (sRet (fun _ => ret (.bl false))) sNil))
def ixB : SS := (sIf (bOr (bNot (tB' (gCall 1 m_is_number (saC (gv 5) sa0)))) (bNot (tB' (g3 leI ltI (fun _ => ret (.int 0)) (gv 5) (gC lenD (saC (gv 4) sa0)))))) (sThrow1 "BadIndex" "index" (gv 5)) sNil)
section
variable {a b c : Str}
def Odd (d : D) : Prop := m_need_pairs [d] = EK.throw exF
theorem odd_non : Odd .non := by unfold Odd; kernel_rfl
theorem odd_nil : Odd (.lst []) := by unfold Odd; kernel_rfl
theorem odd_5 : Odd (.int 5) := by unfold Odd; kernel_rfl
theorem odd_rows : Odd (.str "rows") := by unfold Odd; kernel_rfl
theorem odd_dct : Odd (.dct [] []) := by unfold Odd; kernel_rfl
theorem odd_tup : Odd (.lst [.tup []]) := by unfold Odd; kernel_rfl
theorem odd_one (d : D) : Odd (.lst [.tup [d]]) := by unfold Odd; kernel_rfl
theorem odd_lst (d e : D) : Odd (.lst [.lst [d, e]]) := by unfold Odd; kernel_rfl
theorem pair_step {ms : Lot} (hm : Names ms) {p : PL} (ok : POk ms p) (d k : D) (a4 : Option Sl) : pairB [some (.fz (eL ms)), some (.fz d), some (.fz k), some (.fz (fP ms p)), a4] = EK.ret (.next [some (.fz (eL ms)), some (.fz d), some (.fz k), some (.fz (fP ms p)), a4]) := by
  have eq : eqD (eL ms) (eL ms) = some (.bl true) := by
    have := eqD_eL (a := ms) (b := ms) (fun n hn => (hm.nm n hn).ok) (fun n hn => (hm.nm n hn).ok)
    simpa using this
  unfold pairB
  simp! [show fP ms p = .tup [fam ms (leastOf p.1), fam ms (leastOf p.2)] from rfl, isiD_tup, lk_T, show ∀ a b : D, lenD [.tup [a, b]] = some (.int 2) from fun _ _ => rfl, neD_int, decide_true, Bool.not_true, itemsOf_tup]
  rw [show [fam ms (leastOf p.1), fam ms (leastOf p.2)] = [p.1, p.2].map fun L => fam ms (leastOf L) from rfl, lcM_map (fun L => fam ms (leastOf L)) (fun _ => .bl true) [p.1, p.2] fun L hL => by
    have lk : Lots ms L := by
      simp only [List.mem_cons, List.not_mem_nil, or_false] at hL
      rcases hL with rfl | rfl
      · exact ok.e
      · exact ok.k
    simp! [isi_fam, isC_fam, machines_ok, eq, usable_ok hm lk]]
  simp! [show allD [.lst [.bl true, .bl true]] = some (.bl true) from rfl]
theorem pair_non (ms : Lot) (d k : D) (a4 : Option Sl) : pairB [some (.fz (eL ms)), some (.fz d), some (.fz k), some (.fz .non), a4] = EK.ret (.ret (.bl false)) := by
  unfold pairB; kernel_rfl
theorem pair_other {ms xs : Lot} (hm : Names ms) (hx : Names xs) (ne : xs ≠ ms) (A B : List Lot) (d k : D) (a4 : Option Sl) : pairB [some (.fz (eL ms)), some (.fz d), some (.fz k), some (.fz (.tup [fam xs A, fam xs B])), a4] = EK.ret (.ret (.bl false)) := by
  have eq : eqD (eL xs) (eL ms) = some (.bl false) := by
    have := eqD_eL (a := xs) (b := ms) (fun n hn => (hx.nm n hn).ok) (fun n hn => (hm.nm n hn).ok)
    simpa [ne] using this
  unfold pairB
  simp! [isiD_tup, lk_T, show ∀ a b : D, lenD [.tup [a, b]] = some (.int 2) from fun _ _ => rfl, neD_int, decide_true, Bool.not_true, itemsOf_tup]
  rw [show [fam xs A, fam xs B] = [A, B].map fun L => fam xs L from rfl, lcM_map (fun L => fam xs L) (fun _ => .bl false) [A, B] fun L hL => by
    simp! [isi_fam, isC_fam, machines_ok, eq]]
  simp! [show allD [.lst [.bl false, .bl false]] = some (.bl false) from rfl]
theorem forM_stop {α : Type} (enc : α -> D) {b : SS} {x : D} {r : Out} {g0 g1 g2 : Option Sl} (hr : ∃ d, r = .ret d) : ∀ (ps : List α) (a3 a4 : Option Sl), (∀ p ∈ ps, ∀ a4, b [g0, g1, g2, some (.fz (enc p)), a4] = EK.ret (.next [g0, g1, g2, some (.fz (enc p)), a4])) -> (∀ a4, b [g0, g1, g2, some (.fz x), a4] = EK.ret r) ->
    EK.forM (sgN 3) b (ps.map enc ++ [x]) [g0, g1, g2, a3, a4] = EK.ret r
  | [], a3, a4, _, hx => by
    obtain ⟨d, rfl⟩ := hr
    rw [List.map_nil, List.nil_append, EK.forM]
    show EK.bnd (b [g0, g1, g2, some (.fz x), a4]) _ = _
    rw [hx, bnd_ret]
  | p :: ps, a3, a4, hp, hx => by
    rw [List.map_cons, List.cons_append, EK.forM]
    show EK.bnd (b [g0, g1, g2, some (.fz (enc p)), a4]) _ = _
    rw [hp p (.head _), bnd_ret]
    exact forM_stop enc hr ps _ a4 (fun q hq => hp q (.tail _ hq)) hx
theorem odd_after {ms : Lot} (hm : Names ms) {P : List PL} (hP : ∀ p ∈ P, POk ms p) (h1 : 1 <= P.length) (h5 : P.length <= 5) {x : D} (hx : ∀ d k a4, pairB [some (.fz (eL ms)), some (.fz d), some (.fz k), some (.fz x), a4] = EK.ret (.ret (.bl false))) : Odd (.lst (P.map (fP ms) ++ [x])) := by
  have ap : m_are_pairs [eL ms, .lst (P.map (fP ms) ++ [x]), .int 6] = EK.ret (.bl false) := by
    have il : m_is_list [.lst (P.map (fP ms) ++ [x])] = EK.ret (.bl true) := is_list_ok false _
    have st := forM_stop (b := pairB) (x := x) (r := .ret (.bl false)) (g0 := some (.fz (eL ms))) (g1 := some (.fz (.lst (P.map (fP ms) ++ [x])))) (g2 := some (.fz (.int 6))) (fP ms) ⟨_, rfl⟩ P none none (fun p hp a4 => pair_step hm (hP p hp) _ _ a4) fun a4 => hx _ _ a4
    unfold pairB at st
    have ln : lenD [.lst (P.map (fP ms) ++ [x])] = some (.int ((P.length + 1 : Nat) : Int)) := by rw [lenD_lst, List.length_append, List.length_map]; rfl
    simp! [m_are_pairs, b_are_pairs, il, ln, show (1 : Int) <= ((P.length + 1 : Nat) : Int) by omega, show ((P.length + 1 : Nat) : Int) <= 6 by omega, decide_true, itemsOf_lst, st]
  match P, h1 with
  | p :: P, _ =>
    have il : m_is_list [.lst (fP ms p :: (P.map (fP ms) ++ [x]))] = EK.ret (.bl true) := is_list_ok false _
    have ap : m_are_pairs [eL ms, .lst (fP ms p :: (P.map (fP ms) ++ [x])), .int 6] = EK.ret (.bl false) := ap
    have ln : lenD [.lst (fP ms p :: (P.map (fP ms) ++ [x]))] = some (.int ((P.length + 2 : Nat) : Int)) := by rw [lenD_lst, List.length_cons, List.length_append, List.length_map]; rfl
    have e0 : eqD (.int ((P.length + 2 : Nat) : Int)) (.int 0) = some (.bl false) := by rw [eqD_int, decide_eq_false (by omega)]
    have i0 : ixD (.lst (fP ms p :: (P.map (fP ms) ++ [x]))) (.int 0) = some (fP ms p) := ixD_lst (xs := fP ms p :: (P.map (fP ms) ++ [x])) (i := 0) (by simp)
    unfold Odd exF
    rw [List.map_cons, List.cons_append]
    simp! [m_need_pairs, b_need_pairs, il, ln, e0, i0, show ∀ (p : PL) (g : String -> Option Bool), isiD [] g (fP ms p) = (g "tuple").map .bl from fun _ _ => rfl, lk_T, Option.map_some, show ∀ p : PL, lenD [fP ms p] = some (.int 2) from fun _ => rfl, neD_int, decide_true, Bool.not_true, show ∀ p : PL, ixD (fP ms p) (.int 0) = some (fam ms (leastOf p.1)) from fun _ => rfl, isi_fam, isC_fam, machines_ok, ap]
theorem odd_twice (h : Abc a b c) : Odd (pD false [a, b, c] (P4 a b c ++ P4 a b c)) := by unfold Odd; kernel_rfl
def bads : List D := [.int (-1), .int 4, .bl true, .non, .str "0", .lst [.int 0]]
def fars : List D := [.int 0, .int 5, .bl true, .non, .str "1"]
theorem ix_bad {d : D} (h : d ∈ bads) (P4 x0 x1 x2 x3 : D) (g6 g7 g8 : Option Sl) (hl : lenD [P4] = some (.int 4)) : ixB [some (.fz x0), some (.fz x1), some (.fz x2), some (.fz x3), some (.fz P4), some (.fz d), g6, g7, g8] = EK.throw ⟨"BadIndex", ["index"], [d]⟩ := by
  simp only [bads, List.mem_cons, List.not_mem_nil, or_false] at h
  rcases h with rfl | rfl | rfl | rfl | rfl | rfl <;> unfold ixB <;> simp! [hl] <;> kernel_rfl
end
end
end EKB.K59
set_option maxHeartbeats 2000000
namespace EKB.K59
open PySem PySem.Spec PyProof.Rows L2 EK EKL EKB
section
abbrev kx : List Str := ["BadCount", "BadFamily", "BadIndex", "BadLot", "BadStages", "OtherMachines"]
def tblE : List (Nat × SE) := [(0, (gCall 4 m_rows_between (saC (gv 3) (saC (gv 4) (saC (gv 4) (saC (gv 5) sa0)))))), (1, (gCall 4 m_rows_between (saC (gv 2) (saC (gv 4) (saC (fun _ => EK.ret .non) (saC (gv 5) sa0)))))), (2, (gCall 4 m_rows_between (saC (gv 2) (saC (fun _ => EK.ret (.int 0)) (saC (gv 4) (saC (gv 5) sa0)))))), (3, (gCall 4 m_rows_between (saC (gv 2) (saC (fun _ => EK.ret (.int 0)) (saC (fun _ => EK.ret (.int 1)) (saC (gv 5) sa0)))))), (4, (gCall 1 m_steps_between (saC (gv 3) sa0))), (5, (gCall 1 m_steps_between (saC (gv 6) sa0)))]
def jobE : SE := jobF [9] 9 tblE fun f => gWord kx f 2 b_law_said
def innerB : SS := (sSeq (sAsg (gLst (saC (EK.gTup (saC (fun _ => EK.ret (.str "stages")) (saC (fun _ => EK.ret (.str "families")) sa0))) (saC (EK.gTup (saC (fun _ => EK.ret (.str "index")) (saC (gv 4) sa0))) (saC (EK.gTup (saC (fun _ => EK.ret (.str "index")) (saC (gv 4) sa0))) (saC (EK.gTup (saC (fun _ => EK.ret (.str "count")) (saC (gv 5) sa0))) (saC (EK.gTup (saC (fun _ => EK.ret (.str "stages")) (saC (fun _ => EK.ret (.str "families")) sa0))) (saC (EK.gTup (saC (fun _ => EK.ret (.str "stages")) (saC (fun _ => EK.ret (.str "families")) sa0))) sa0))))))) (sgN 8)) (sRet (g2 eqS (gC reprD (saC (gLO (gLc [9] (gItO 7) (sgN 9) yes jobE)) sa0)) (gC reprD (saC (gv 8) sa0)))))
def lamB : SS := (sLamN 7 (lamQ "_law_refused_right") (fun n0 => (sLamA 7 (lamQ "_law_refused_right") (fun n1 => (sLamA 7 (lamQ "_law_refused_right") (fun n2 => (sLamA 7 (lamQ "_law_refused_right") (fun n3 => (sLamA 7 (lamQ "_law_refused_right") (fun n4 => (sLamA 7 (lamQ "_law_refused_right") (fun n5 => (sSeq (sAsg (gLst (saC (EK.gTup (saC (fun _ => EK.ret (.str "stages")) (saC (fun _ => EK.ret (.str "families")) sa0))) (saC (EK.gTup (saC (fun _ => EK.ret (.str "index")) (saC (gv 4) sa0))) (saC (EK.gTup (saC (fun _ => EK.ret (.str "index")) (saC (gv 4) sa0))) (saC (EK.gTup (saC (fun _ => EK.ret (.str "count")) (saC (gv 5) sa0))) (saC (EK.gTup (saC (fun _ => EK.ret (.str "stages")) (saC (fun _ => EK.ret (.str "families")) sa0))) (saC (EK.gTup (saC (fun _ => EK.ret (.str "stages")) (saC (fun _ => EK.ret (.str "families")) sa0))) sa0))))))) (sgN 8)) (sRet (g2 eqS (gC reprD (saC (gLO (gLc [9] (gItO 7) (sgN 9) yes (jobF [9] 9 [(n0, (gCall 4 m_rows_between (saC (gv 3) (saC (gv 4) (saC (gv 4) (saC (gv 5) sa0)))))), (n1, (gCall 4 m_rows_between (saC (gv 2) (saC (gv 4) (saC (fun _ => EK.ret .non) (saC (gv 5) sa0)))))), (n2, (gCall 4 m_rows_between (saC (gv 2) (saC (fun _ => EK.ret (.int 0)) (saC (gv 4) (saC (gv 5) sa0)))))), (n3, (gCall 4 m_rows_between (saC (gv 2) (saC (fun _ => EK.ret (.int 0)) (saC (fun _ => EK.ret (.int 1)) (saC (gv 5) sa0)))))), (n4, (gCall 1 m_steps_between (saC (gv 3) sa0))), (n5, (gCall 1 m_steps_between (saC (gv 6) sa0)))] fun f => gWord ["BadCount", "BadFamily", "BadIndex", "BadLot", "BadStages", "OtherMachines"] f 2 b_law_said))) sa0)) (gC reprD (saC (gv 8) sa0)))))))))))))))))
theorem refused_cut : b_law_refused_right = (sSeq (sAsg (gCall 1 m_law_four (saC (gv 1) sa0)) (sgN 2)) (sSeq (sAsg (gCall 2 m_law_pick (saC (gv 0) (saC (gLst (saC (fun _ => EK.ret .non) (saC (gLst sa0) (saC (g2 mulD (gv 2) (fun _ => EK.ret (.int 2))) (saC (gLst (saC (g2 ixD (gv 2) (fun _ => EK.ret (.int 0))) (saC (fun _ => EK.ret .non) sa0))) (saC (gLst (saC (gC listD (saC (g2 ixD (gv 2) (fun _ => EK.ret (.int 0))) sa0)) sa0)) (saC (fun _ => EK.ret (.int 5)) (saC (fun _ => EK.ret (.str "rows")) (saC (gLst (saC (EK.gTup (saC (g2 ixD (g2 ixD (gv 2) (fun _ => EK.ret (.int 0))) (fun _ => EK.ret (.int 0))) sa0)) sa0)) (saC (fun _ => EK.ret (.dct [] [])) (saC (gLst (saC (EK.gTup sa0) sa0)) sa0))))))))))) sa0))) (sgN 3)) (sSeq (sAsg (EK.gTup (saC (gCall 2 m_law_pick (saC (gv 0) (saC (gLst (saC (g1 negD (fun _ => EK.ret (.int 1))) (saC (fun _ => EK.ret (.int 4)) (saC (fun _ => EK.ret (.bl true)) (saC (fun _ => EK.ret .non) (saC (fun _ => EK.ret (.str "0")) (saC (gLst (saC (fun _ => EK.ret (.int 0)) sa0)) sa0))))))) sa0))) (saC (gCall 2 m_law_pick (saC (gv 0) (saC (gLst (saC (fun _ => EK.ret (.int 0)) (saC (fun _ => EK.ret (.int 5)) (saC (fun _ => EK.ret (.bl true)) (saC (fun _ => EK.ret .non) (saC (fun _ => EK.ret (.str "1")) sa0)))))) sa0))) sa0))) (sgT (sgCons (sgN 4) (sgCons (sgN 5) sgNil)))) (sSeq (sAsg (g2 addD (gSl (gv 2) oNone (oSome (fun _ => EK.ret (.int 2)))) (gLst (saC (EK.gTup (saC (gMake "Family" 2 m_Family___init__ (saC (gSl (gv 1) oNone (oSome (fun _ => EK.ret (.int 2)))) (saC (gLst (saC (EK.gTup (saC (g2 ixD (gv 1) (fun _ => EK.ret (.int 0))) sa0)) sa0)) sa0))) (saC (gMake "Family" 2 m_Family___init__ (saC (gSl (gv 1) oNone (oSome (fun _ => EK.ret (.int 2)))) (saC (gLst (saC (EK.gTup (saC (g2 ixD (gv 1) (fun _ => EK.ret (.int 0))) sa0)) sa0)) sa0))) sa0))) sa0))) (sgN 6)) lamB)))) := rfl
def qL : Str := lamQ "_law_refused_right"
section
variable {a b c : Str}
theorem word_stages : wordM 2 b_law_said (.exc "BadStages" ["part"] [.str "families"]) = EK.ret (.tup [.str "stages", .str "families"]) := by kernel_rfl
theorem word_index (d : D) : wordM 2 b_law_said (.exc "BadIndex" ["index"] [d]) = EK.ret (.tup [.str "index", d]) := by kernel_rfl
theorem word_count (d : D) : wordM 2 b_law_said (.exc "BadCount" ["count"] [d]) = EK.ret (.tup [.str "count", d]) := by kernel_rfl
theorem gw_stages {f : SE} {G : Sls} (h : f G = EK.throw exF) : gWord kx f 2 b_law_said G = EK.ret (.tup [.str "stages", .str "families"]) := by
  unfold exF at h
  rw [gWord, gCaught_def, h, catch_exc kx "BadStages" ["part"] [.str "families"] (by decide +kernel), bnd_ret, word_stages, noErr_ret]
theorem gw_index {f : SE} {G : Sls} {d : D} (h : f G = EK.throw ⟨"BadIndex", ["index"], [d]⟩) : gWord kx f 2 b_law_said G = EK.ret (.tup [.str "index", d]) := by
  rw [gWord, gCaught_def, h, catch_exc kx "BadIndex" ["index"] [d] (by decide +kernel), bnd_ret, word_index, noErr_ret]
theorem gw_count {f : SE} {G : Sls} {d : D} (h : f G = EK.throw ⟨"BadCount", ["count"], [d]⟩) : gWord kx f 2 b_law_said G = EK.ret (.tup [.str "count", d]) := by
  rw [gWord, gCaught_def, h, catch_exc kx "BadCount" ["count"] [d] (by decide +kernel), bnd_ret, word_count, noErr_ret]
theorem rows_odd {d : D} (h : Odd d) (x y z : D) : m_rows_between [d, x, y, z] = EK.throw exF := by
  unfold Odd at h
  simp! [m_rows_between, b_rows_between, h, bnd_throw]
theorem steps_odd {d : D} (h : Odd d) : m_steps_between [d] = EK.throw exF := by
  unfold Odd at h
  simp! [m_steps_between, b_steps_between, h, bnd_throw]
section
variable (h : Abc a b c) (hm : Names [a, b, c])
include h hm
theorem rows_ix1 {d : D} (hd : d ∈ bads) (y z : D) : m_rows_between [pD false [a, b, c] (P4 a b c), d, y, z] = EK.throw ⟨"BadIndex", ["index"], [d]⟩ := by
  have np := need_pairs_ok false hm (P4_ok h) (Nat.le_of_ble_eq_true rfl) (Nat.le_of_ble_eq_true rfl)
  have st : EK.forM (sgN 5) ixB [d, y] [some (.fz (pD false [a, b, c] (P4 a b c))), some (.fz d), some (.fz y), some (.fz z), some (.fz (pD true [a, b, c] (P4 a b c))), none, none, none, none] = EK.throw ⟨"BadIndex", ["index"], [d]⟩ := by
    rw [EK.forM]
    show EK.bnd (ixB [some (.fz (pD false [a, b, c] (P4 a b c))), some (.fz d), some (.fz y), some (.fz z), some (.fz (pD true [a, b, c] (P4 a b c))), some (.fz d), none, none, none]) _ = _
    rw [ix_bad hd _ _ _ _ _ _ _ _ (lenF ..), bnd_throw]
  unfold ixB at st
  simp! [m_rows_between, b_rows_between, np, st, bnd_throw]
theorem rows_ix2 {d : D} (hd : d ∈ bads) (z : D) : m_rows_between [pD false [a, b, c] (P4 a b c), .int 0, d, z] = EK.throw ⟨"BadIndex", ["index"], [d]⟩ := by
  have np := need_pairs_ok false hm (P4_ok h) (Nat.le_of_ble_eq_true rfl) (Nat.le_of_ble_eq_true rfl)
  have st : EK.forM (sgN 5) ixB [.int 0, d] [some (.fz (pD false [a, b, c] (P4 a b c))), some (.fz (.int 0)), some (.fz d), some (.fz z), some (.fz (pD true [a, b, c] (P4 a b c))), none, none, none, none] = EK.throw ⟨"BadIndex", ["index"], [d]⟩ := by
    have s1 : ixB [some (.fz (pD false [a, b, c] (P4 a b c))), some (.fz (.int 0)), some (.fz d), some (.fz z), some (.fz (pD true [a, b, c] (P4 a b c))), some (.fz (.int 0)), none, none, none] = EK.ret (.next [some (.fz (pD false [a, b, c] (P4 a b c))), some (.fz (.int 0)), some (.fz d), some (.fz z), some (.fz (pD true [a, b, c] (P4 a b c))), some (.fz (.int 0)), none, none, none]) := by
      have ln : lenD [pD true [a, b, c] (P4 a b c)] = some (.int 4) := lenF ..
      unfold ixB
      simp! [num_ok, ln]
      kernel_rfl
    have g1 : sgN 5 [some (.fz (pD false [a, b, c] (P4 a b c))), some (.fz (.int 0)), some (.fz d), some (.fz z), some (.fz (pD true [a, b, c] (P4 a b c))), none, none, none, none] (.int 0) = some [some (.fz (pD false [a, b, c] (P4 a b c))), some (.fz (.int 0)), some (.fz d), some (.fz z), some (.fz (pD true [a, b, c] (P4 a b c))), some (.fz (.int 0)), none, none, none] := rfl
    have g2 : sgN 5 [some (.fz (pD false [a, b, c] (P4 a b c))), some (.fz (.int 0)), some (.fz d), some (.fz z), some (.fz (pD true [a, b, c] (P4 a b c))), some (.fz (.int 0)), none, none, none] d = some [some (.fz (pD false [a, b, c] (P4 a b c))), some (.fz (.int 0)), some (.fz d), some (.fz z), some (.fz (pD true [a, b, c] (P4 a b c))), some (.fz d), none, none, none] := rfl
    rw [EK.forM, g1, ofO_some, bnd_ret, s1, bnd_ret]
    show EK.forM (sgN 5) ixB [d] _ = _
    rw [EK.forM, g2, ofO_some, bnd_ret, ix_bad hd _ _ _ _ _ _ _ _ (lenF ..), bnd_throw]
  unfold ixB at st
  simp! [m_rows_between, b_rows_between, np, st, bnd_throw]
theorem rows_cnt {d : D} (hd : d ∈ fars) : m_rows_between [pD false [a, b, c] (P4 a b c), .int 0, .int 1, d] = EK.throw ⟨"BadCount", ["count"], [d]⟩ := by
  have np := need_pairs_ok false hm (P4_ok h) (Nat.le_of_ble_eq_true rfl) (Nat.le_of_ble_eq_true rfl)
  have ln : lenD [pD true [a, b, c] (P4 a b c)] = some (.int 4) := lenF ..
  have st : EK.forM (sgN 5) ixB [.int 0, .int 1] [some (.fz (pD false [a, b, c] (P4 a b c))), some (.fz (.int 0)), some (.fz (.int 1)), some (.fz d), some (.fz (pD true [a, b, c] (P4 a b c))), none, none, none, none] = EK.ret (.next [some (.fz (pD false [a, b, c] (P4 a b c))), some (.fz (.int 0)), some (.fz (.int 1)), some (.fz d), some (.fz (pD true [a, b, c] (P4 a b c))), some (.fz (.int 1)), none, none, none]) := by
    unfold ixB
    simp! [EK.forM, num_ok, ln]
    kernel_rfl
  unfold ixB at st
  have e : m_rows_between [pD false [a, b, c] (P4 a b c), .int 0, .int 1, d] = EK.bnd ((sIf (bOr (bNot (tB' (gCall 1 m_is_number (saC (gv 3) sa0)))) (bNot (tB' (EK.g3 leI leI (fun _ => EK.ret (.int 1)) (gv 3) (fun _ => EK.ret (.int 4)))))) (sThrow1 "BadCount" "count" (gv 3)) sNil) [some (.fz (pD false [a, b, c] (P4 a b c))), some (.fz (.int 0)), some (.fz (.int 1)), some (.fz d), some (.fz (pD true [a, b, c] (P4 a b c))), some (.fz (.int 1)), none, none, none]) fun _ => EK.throw ⟨"BadCount", ["count"], [d]⟩ := by
    simp only [fars, List.mem_cons, List.not_mem_nil, or_false] at hd
    rcases hd with rfl | rfl | rfl | rfl | rfl <;> simp! [m_rows_between, b_rows_between, np, st, bnd_throw] <;> kernel_rfl
  rw [e]
  simp only [fars, List.mem_cons, List.not_mem_nil, or_false] at hd
  rcases hd with rfl | rfl | rfl | rfl | rfl <;> kernel_rfl
end
end
end
end EKB.K59
set_option maxHeartbeats 2000000
namespace EKB.K59
open PySem PySem.Spec PyProof.Rows L2 EK EKL EKB
section
section
variable {a b c : Str}
def dues (d f : D) : List D := [.tup [.str "stages", .str "families"], .tup [.str "index", d], .tup [.str "index", d], .tup [.str "count", f], .tup [.str "stages", .str "families"], .tup [.str "stages", .str "families"]]
def lams : List D := [lamD qL 0, lamD qL 1, lamD qL 2, lamD qL 3, lamD qL 4, lamD qL 5]
theorem rp_small {d : D} (h : d ∈ bads ++ fars) : Rp 100 1 d := by
  simp only [bads, fars, List.cons_append, List.nil_append, List.mem_cons, List.not_mem_nil, or_false] at h
  have i : ∀ i : Int, i.natAbs < 10 ^ 25 -> Rp 100 1 (.int i) := fun i hi => (Rp.int hi).mono (by decide) (by decide)
  have s : ∀ x : Str, PyData.strOk x = true -> x.length <= 9 -> Rp 100 1 (.str x) := fun x hx hl => (Rp.str hx).mono (by omega) (by decide)
  have bl : ∀ b, Rp 100 1 (.bl b) := fun b => (Rp.bl b).mono (by decide) (by decide)
  have no : Rp 100 1 .non := Rp.non.mono (by decide) (by decide)
  rcases h with rfl | rfl | rfl | rfl | rfl | rfl | rfl | rfl | rfl | rfl | rfl
  · exact i _ (by decide)
  · exact i _ (by decide)
  · exact bl _
  · exact no
  · exact s _ (by decide +kernel) (by decide +kernel)
  · exact (Rp.lst (w := 26) (n := 0) (k := 1) (fun x hx => by rw [List.mem_singleton.mp hx]; exact Rp.int (by decide)) (by simp)).mono (by decide) (by decide)
  · exact i _ (by decide)
  · exact i _ (by decide)
  · exact bl _
  · exact no
  · exact s _ (by decide +kernel) (by decide +kernel)
theorem rp_word {k : Str} (hk : PyData.strOk k = true) (hl : k.length <= 10) {d : D} (h : Rp 110 1 d) : Rp 250 2 (.tup [.str k, d]) :=
  (Rp.tup (w := 110) (n := 1) (k := 2) (fun x hx => by
    rcases List.mem_cons.mp hx with rfl | hx
    · exact (Rp.str hk).mono (by omega) (by decide)
    · rw [List.mem_singleton.mp hx]; exact h) (by simp)).mono (by decide) (by decide)
theorem repr_dues {d f : D} (hd : d ∈ bads) (hf : f ∈ fars) : ∃ z, reprD [.lst (dues d f)] = some (.str z) := by
  have r1 := (rp_small (List.mem_append_left fars hd)).mono (show 100 <= 110 by decide) (Nat.le_refl 1)
  have r2 := (rp_small (List.mem_append_right bads hf)).mono (show 100 <= 110 by decide) (Nat.le_refl 1)
  have w1 := rp_word (k := "stages") (by decide +kernel) (by decide +kernel) (d := .str "families") ((Rp.str (by decide +kernel)).mono (by decide +kernel) (by decide))
  have w2 := rp_word (k := "index") (by decide +kernel) (by decide +kernel) r1
  have w3 := rp_word (k := "count") (by decide +kernel) (by decide +kernel) r2
  refine (Rp.lst (w := 250) (n := 2) (k := 6) (fun x hx => ?_) (by simp [dues])).repr (by decide) (by decide)
  simp only [dues, List.mem_cons, List.not_mem_nil, or_false] at hx
  rcases hx with rfl | rfl | rfl | rfl | rfl | rfl
  · exact w1
  · exact w2
  · exact w2
  · exact w3
  · exact w1
  · exact w1
section
variable (h : Abc a b c) (hm : Names [a, b, c])
include h hm
abbrev G9 (a b c : Str) (nm o d f oth : D) (u8 u9 : Option Sl) : Sls := [some (.fz .drw), some (.fz nm), some (.fz (pD false [a, b, c] (P4 a b c))), some (.fz o), some (.fz d), some (.fz f), some (.fz oth), some (.own lams), u8, u9]
theorem inner_ok {o oth d f nm : D} (ho : Odd o) (hoth : Odd oth) (hd : d ∈ bads) (hf : f ∈ fars) : innerB (G9 a b c nm o d f oth none none) = EK.ret (.ret (.bl true)) := by
  obtain ⟨z, hz⟩ := repr_dues hd hf
  have j : ∀ n ∈ [0, 1, 2, 3, 4, 5], jobE (G9 a b c nm o d f oth (some (.fz (.lst (dues d f)))) (some (.fz (lamD qL n)))) = EK.ret ((dues d f).getD n .non) := fun n hn => by
    simp only [List.mem_cons, List.not_mem_nil, or_false] at hn
    have wj : wipeG (G9 a b c nm o d f oth (some (.fz (.lst (dues d f)))) (some (.fz (lamD qL n)))) [9] = G9 a b c nm o d f oth (some (.fz (.lst (dues d f)))) none := rfl
    unfold jobE
    rcases hn with rfl | rfl | rfl | rfl | rfl | rfl
    · rw [jobF_lam (q := qL) (n := 0) rfl rfl, wj]
      exact gw_stages (by simp! [rows_odd ho])
    · rw [jobF_lam (q := qL) (n := 1) rfl rfl, wj]
      exact gw_index (by simp! [rows_ix1 h hm hd])
    · rw [jobF_lam (q := qL) (n := 2) rfl rfl, wj]
      exact gw_index (by simp! [rows_ix2 h hm hd])
    · rw [jobF_lam (q := qL) (n := 3) rfl rfl, wj]
      exact gw_count (by simp! [rows_cnt h hm hf])
    · rw [jobF_lam (q := qL) (n := 4) rfl rfl, wj]
      exact gw_stages (by simp! [steps_odd ho])
    · rw [jobF_lam (q := qL) (n := 5) rfl rfl, wj]
      exact gw_stages (by simp! [steps_odd hoth])
  have lc : lcM (sgN 9) yes jobE (G9 a b c nm o d f oth (some (.fz (.lst (dues d f)))) none) lams = EK.ret (dues d f) :=
    lcM_map (u := yes) (f := sgN 9) (h := jobE) (lamD qL) (fun n => (dues d f).getD n .non) [0, 1, 2, 3, 4, 5] fun n hn => by
      have := j n hn
      have g1 : sgN 9 (G9 a b c nm o d f oth (some (.fz (.lst (dues d f)))) none) (lamD qL n) = some (G9 a b c nm o d f oth (some (.fz (.lst (dues d f)))) (some (.fz (lamD qL n)))) := rfl
      unfold lcB
      rw [g1, ofO_some, bnd_ret]
      show EK.bnd (EK.ret true) _ = _
      rw [bnd_ret, if_pos rfl, this, bnd_ret]
  have e : reprD [.lst [.tup [.str "stages", .str "families"], .tup [.str "index", d], .tup [.str "index", d], .tup [.str "count", f], .tup [.str "stages", .str "families"], .tup [.str "stages", .str "families"]]] = _ := hz
  have lc' : lcM (sgN 9) yes jobE [some (.fz .drw), some (.fz nm), some (.fz (pD false [a, b, c] (P4 a b c))), some (.fz o), some (.fz d), some (.fz f), some (.fz oth), some (.own lams), some (.fz (.lst [.tup [.str "stages", .str "families"], .tup [.str "index", d], .tup [.str "index", d], .tup [.str "count", f], .tup [.str "stages", .str "families"], .tup [.str "stages", .str "families"]])), none] lams = _ := lc
  unfold innerB
  simp! [gItO, lc', hz, e, eqS_str, decide_true]
theorem lam_tr {o oth d f nm : D} (ho : Odd o) (hoth : Odd oth) (hd : d ∈ bads) (hf : f ∈ fars) : TrL 0 0 (lamB [some (.fz .drw), some (.fz nm), some (.fz (pD false [a, b, c] (P4 a b c))), some (.fz o), some (.fz d), some (.fz f), some (.fz oth), none, none, none]) fun x => ∃ v, x = .ret v /\ v = .bl true := by
  have hP : ∀ v : D, v = .bl true -> ∀ p, clF p v = true := fun v e p => by subst e; rfl
  unfold lamB
  refine TrL.lamN hP ?_
  refine TrL.lamA hP rfl (by decide) ?_
  refine TrL.lamA hP rfl (by decide) ?_
  refine TrL.lamA hP rfl (by decide) ?_
  refine TrL.lamA hP rfl (by decide) ?_
  refine TrL.lamA hP rfl (by decide) ?_
  exact TrL.of (Tr.eq (inner_ok h hm ho hoth hd hf) ⟨_, rfl, rfl⟩)
theorem refused_tr : TrL 3 0 (m_law_refused_right [.drw, .lst [.str a, .str b, .str c]]) fun y => y = .bl true := by
  have f4 : m_law_four [.lst [.str a, .str b, .str c]] = _ := four_ok h hm
  have h2 : Names [a, b] := ⟨asc2 h.ab, by simp, by simp, fun n hn => hm.nm n (by simp at hn ⊢; rcases hn with rfl | rfl <;> simp)⟩
  have mO : m_Family___init__ [.lst [.str a, .str b], .lst [.tup [.str a]]] = _ := fam_made h2 (lotsO (.head _)) (canonO a)
  have sl2 : sliceD none (some 2) (.lst [.str a, .str b, .str c]) = some (.lst [.str a, .str b]) := rfl
  have sl4 : sliceD none (some 2) (pD false [a, b, c] (P4 a b c)) = some (.lst ([(Hf a b c, Hf a b c), (Hf a b c, Of a)].map (fP [a, b, c]))) := rfl
  have x0 : ixD (.lst [.str a, .str b, .str c]) (.int 0) = some (.str a) := rfl
  have p0 : ixD (pD false [a, b, c] (P4 a b c)) (.int 0) = some (.tup [fam [a, b, c] (leastOf (Hf a b c)), fam [a, b, c] (leastOf (Hf a b c))]) := rfl
  have p00 : ∀ x y : D, ixD (.tup [x, y]) (.int 0) = some x := fun _ _ => rfl
  have mu : mulD (pD false [a, b, c] (P4 a b c)) (.int 2) = some (pD false [a, b, c] (P4 a b c ++ P4 a b c)) := rfl
  have li : ∀ x y : D, EK.listD [.tup [x, y]] = some (.lst [x, y]) := fun _ _ => rfl
  have ng : negD (.int 1) = some (.int (-1)) := rfl
  have ad : addD (.lst [fP [a, b, c] (Hf a b c, Hf a b c), fP [a, b, c] (Hf a b c, Of a)]) (.lst [.tup [.obj "Family" ["own_machines", "own_least"] [eL [a, b], eLs (Of a)], .obj "Family" ["own_machines", "own_least"] [eL [a, b], eLs (Of a)]]]) = some (.lst [fP [a, b, c] (Hf a b c, Hf a b c), fP [a, b, c] (Hf a b c, Of a), .tup [fam [a, b] (Of a), fam [a, b] (Of a)]]) := rfl
  have P2 : ∀ p ∈ [(Hf a b c, Hf a b c), (Hf a b c, Of a)], POk [a, b, c] p := fun p hp => P4_ok h p (by simp only [P4, List.mem_cons, List.not_mem_nil, or_false] at hp ⊢; rcases hp with rfl | rfl <;> simp)
  have ot : Odd (.lst [fP [a, b, c] (Hf a b c, Hf a b c), fP [a, b, c] (Hf a b c, Of a), .tup [fam [a, b] (Of a), fam [a, b] (Of a)]]) := odd_after hm P2 (by simp) (by simp) fun d k a4 => pair_other hm h2 (by simp) _ _ d k a4
  have o2 : Odd (.lst [.tup [fam [a, b, c] (leastOf (Hf a b c)), fam [a, b, c] (leastOf (Hf a b c))], .non]) := odd_after hm (P := [(Hf a b c, Hf a b c)]) (fun p hp => P2 p (by rw [List.mem_singleton.mp hp]; exact .head _)) (by simp) (by simp) fun d k a4 => pair_non _ d k a4
  unfold m_law_refused_right
  rw [refused_cut]
  simp! [f4, mu, p0, p00, li, ng]
  refine TrL.le (TrL.bnd (TrL.of (pick1 (by simp) (by simp))) (j := 2) fun y hy => ?_) (by decide)
  have ho : Odd y := by
    simp only [List.mem_cons, List.not_mem_nil, or_false] at hy
    rcases hy with rfl | rfl | rfl | rfl | rfl | rfl | rfl | rfl | rfl | rfl
    · exact odd_non
    · exact odd_nil
    · exact odd_twice h
    · exact o2
    · exact odd_lst _ _
    · exact odd_5
    · exact odd_rows
    · exact odd_one _
    · exact odd_dct
    · exact odd_tup
  refine TrL.le (TrL.bnd (TrL.of (pick1 (by simp) (by simp))) (j := 1) fun d hd => ?_) (by decide)
  refine TrL.le (TrL.bnd (TrL.of (pick1 (by simp) (by simp))) (j := 0) fun f hf => ?_) (by decide)
  simp! [itemsT_tup, show ∀ x y z : D, cutL [x, y, z] none (some 2) = [x, y] from fun _ _ _ => rfl, sl2, x0, mO, sl4, ad]
  refine TrL.le (TrL.bnd (lam_tr h hm ho ot (d := d) (f := f) hd hf) (j := 0) fun o ⟨v, e1, e2⟩ => ?_) (by decide)
  subst e1
  subst e2
  simp! []
  exact TrL.ret rfl
end
end
end
end EKB.K59
set_option maxHeartbeats 2000000
namespace EKB.K59
open PySem PySem.Spec PyProof.Rows L2 EK EKL EKB
section
theorem law_tr (ns : List Int) (hn : ns.length <= 63) : TrL 700 0 (m_law ns) fun d => d = .bl true := by
  obtain ⟨k, hk, rk⟩ : ∃ k : Nat, k <= 10 /\ rng1 [.int (2 + (if (8 : Int) < (ns.length : Int) then 8 else (ns.length : Int)))] = some ((List.range k).map fun (i : Nat) => D.int (i : Int)) := by
    by_cases z : (8 : Int) < (ns.length : Int)
    · exact ⟨10, by decide, by rw [if_pos z]; exact rng1_int (by omega) (by decide)⟩
    · exact ⟨2 + ns.length, by omega, by rw [if_neg z]; exact rng1_int (by omega) (by omega)⟩
  simp! [m_law, b_law, runL, startL, lenD_scr, show ∀ i j : Int, min2D [.int i, .int j] = some (.int (if j < i then j else i)) from fun _ _ => rfl, rk]
  refine TrL.le (TrL.bnd (TrL.forI 63 (fun (i : Nat) => D.int (i : Int)) (fun _ G => ∃ a2 a3, G = [some (.fz (.scr ns)), some (.fz .drw), a2, a3]) k (List.range k) 0 _ (by rw [List.length_range]; omega) ⟨_, _, rfl⟩ ?_) (j := 0) ?_) (by rw [List.length_range]; omega)
  · rintro _ G x hx _ ⟨a2, a3, rfl⟩
    refine ⟨_, rfl, ?_⟩
    simp! []
    refine TrL.le (TrL.bnd (TrL.of (labels_tr (k := 3) (by decide) (by decide))) (j := 3) fun y ⟨ms, e, hm, l3⟩ => ?_) (by decide)
    subst e
    match ms, l3 with
    | [a, b, c], _ =>
      have h := abc_of hm.asc
      have r1 : m_law_rows_right [.lst [.str a, .str b, .str c]] = _ := rows_right h hm
      have r2 : m_law_stages_right [.lst [.str a, .str b, .str c]] = _ := stages_right h hm
      simp! [r1, r2]
      refine TrL.le (TrL.bnd (refused_tr h hm) (j := 0) fun y e => ?_) (by decide)
      subst e
      simp! []
      exact TrL.ret ⟨_, rfl, _, _, rfl⟩
  · rintro o ⟨G', rfl, a2, a3, rfl⟩
    simp! []
    exact TrL.ret rfl
theorem lw : Lw := fun ns hn => by
  obtain ⟨d, s, e, _, _, p⟩ := law_tr ns hn (ds0 ns) (ds0_ok ns) rfl rfl (by show (0 : Int) + 700 <= LIM; unfold LIM; omega)
  subst p
  exact ⟨s, e⟩
end
end EKB.K59
theorem K59.final : PySem.Challenge.rw_electkeep_k59_stages_known_by_hand.Holds := EKB.K59.holds_of EKB.K59.lw
theorem PySem.Challenge.cw_electkeep_k59_stages_known_by_hand_holds : PySem.Challenge.rw_electkeep_k59_stages_known_by_hand.Holds := by
  exact K59.final
